import PyProof.Rows.All
import Wide.All
import OpenK.AllK
import Wide.FinOn
import HandS.ForMost
import HandS.ForExc
import HandS.Deep
import HandS.Lambda
import HandS.Flow
import HandS.Defaults
import HandS.CallSlots
import HandS.TupAny
import HandS.IsInst
import HandS.FStr
import HandS.Wide
import HandS.Style
import HandS.RaiseMore
import HandS.Dict
import HandS.Iter
import HandS.Text
import KE.KExcSuper
import KE.KSuper
import HandS.Nested
import HandS.ExcInit
import KE.KExcIs
import HandS.ExcIs
import HandS.ExcField
import HandS.SetFor
import HandS.EndBits
import HandS.EndTab
import HandS.HeadWalk
import KE.KStateDown
import KE.KNestM
import HandS.Head0
import HandS.Head1
import HandS.Head2
import HandS.HeadHook1
import HandS.HeadHook2
import HandS.HeadHook3
import HandS.HeadHook4
import Lean
import HandS.HeadEnd
import PySem.Challenge.RW_keptends_k72_events_written_and_read
set_option autoImplicit false
set_option linter.all false
/-! VL0: the value semantics: environments of slots over plain data, results, combinators. No heap, no machine. -/
namespace VL
open PySem

abbrev D := PyData

/-- what a slot holds: nothing, plain data, a thing of the frame's own (list, dict by texts, instance), or a caught exception -/
inductive SV where
  | unset
  | d (x : D)
  | ol (ds : List D)
  | od (kvs : List (Str × D))
  | oi (c : Str) (fs : List (Str × SV))
  | xo (c : Str) (fs : List (Str × D))
abbrev Env := List SV
def SV.own : SV → Bool
  | .ol _ => true
  | .od _ => true
  | .oi _ _ => true
  | _ => false
/-- a result: a value and the slots behind it; an own error by the name of its class, its fields; nothing said -/
inductive Res (α : Type) where
  | ok (x : α) (e : Env)
  | err (c : Str) (fs : List (Str × D)) (e : Env)
  | stuck
abbrev Md (α : Type) := Env → Res α
/-- a statement's end -/
inductive SR where
  | nx (e : Env)
  | rt (v : SV) (e : Env)
  | bk (e : Env)
  | ct (e : Env)
  | err (c : Str) (fs : List (Str × D)) (e : Env)
  | stuck
abbrev Sm := Env → SR

@[reducible] def ret {α : Type} (x : α) : Md α := fun e => .ok x e
def bnd {α β : Type} (m : Md α) (k : α → Md β) : Md β := fun e => match m e with
  | .ok x e1 => k x e1
  | .err c fs e1 => .err c fs e1
  | .stuck => .stuck
/-- an answer that may be missing -/
def lft {α : Type} (o : Option α) : Md α := fun e => match o with
  | some x => .ok x e
  | none => .stuck

theorem bnd_ok {α β : Type} {m : Md α} {k : α → Md β} {e e1 : Env} {x : α} (h : m e = .ok x e1) : bnd m k e = k x e1 := by
  unfold bnd; rw [h]
theorem bnd_err {α β : Type} {m : Md α} {k : α → Md β} {e e1 : Env} {c : Str} {fs : List (Str × D)} (h : m e = .err c fs e1) : bnd m k e = .err c fs e1 := by
  unfold bnd; rw [h]
theorem bnd_stuck {α β : Type} {m : Md α} {k : α → Md β} {e : Env} (h : m e = .stuck) : bnd m k e = .stuck := by
  unfold bnd; rw [h]

/-! ### expressions -/
def eV (i : Nat) : Md D := fun e => match e[i]? with
  | some (.d x) => .ok x e
  | _ => .stuck
/-- an own list looked at for a moment -/
def ePk (i : Nat) : Md D := fun e => match e[i]? with
  | some (.d x) => .ok x e
  | some (.ol ds) => .ok (.list ds) e
  | _ => .stuck
/-- an own list given away -/
def eFz (i : Nat) : Md D := fun e => match e[i]? with
  | some (.d x) => .ok x e
  | some (.ol ds) => .ok (.list ds) (e.set i (.d (.list ds)))
  | _ => .stuck
def eK (x : D) : Md D := fun e => .ok x e
def eOp1 (f : D → Option D) (a : Md D) : Md D := bnd a fun x => lft (f x)
def eOp2 (f : D → D → Option D) (a b : Md D) : Md D := bnd a fun x => bnd b fun y => lft (f x y)
def aNil : Md (List D) := fun e => .ok [] e
def aCons (a : Md D) (l : Md (List D)) : Md (List D) := bnd a fun x => bnd l fun xs => fun e => .ok (x :: xs) e
def eL (f : List D → Option D) (l : Md (List D)) : Md D := bnd l fun xs => lft (f xs)
def eIf (t : Md Bool) (a b : Md D) : Md D := bnd t fun c => if c = true then a else b
/-! ### tests -/
def tB (a : Md D) (f : D → Option Bool) : Md Bool := bnd a fun x => lft (f x)
def tNt (t : Md Bool) : Md Bool := bnd t fun c e => .ok (!c) e
def tAn (t u : Md Bool) : Md Bool := bnd t fun c => if c = true then u else fun e => .ok false e
def tOr (t u : Md Bool) : Md Bool := bnd t fun c => if c = true then fun e => .ok true e else u
def asBool : D → Option Bool
  | .bool b => some b
  | _ => none
/-- truth of plain data -/
def truth : D → Option Bool
  | .none => some false
  | .bool b => some b
  | .int i => some (i != 0)
  | .str x => some (x.length != 0)
  | .list ds => some (!ds.isEmpty)
  | .tuple ds => some (!ds.isEmpty)
  | .dict _ => none
/-- and, or as values, the left one a bool -/
def eAn (a b : Md D) : Md D := bnd a fun x => match x with
  | .bool true => b
  | .bool false => fun e => .ok (.bool false) e
  | _ => fun _ => .stuck
def eOr (a b : Md D) : Md D := bnd a fun x => match x with
  | .bool false => b
  | .bool true => fun e => .ok (.bool true) e
  | _ => fun _ => .stuck
def eNt (a : Md D) : Md D := bnd a fun x => match x with
  | .bool b => fun e => .ok (.bool (!b)) e
  | _ => fun _ => .stuck
end VL

set_option Elab.async false
set_option autoImplicit false
set_option linter.all false
set_option maxRecDepth 100000
set_option maxHeartbeats 4000000
/-! VL1: plain data in the abstract heap, what a frame owns, steps, and the four readings tD, tT, tL, tA. -/
namespace VL
open PySem PySem.Spec PyProof.Rows L2 LamX

structure Cfg where
  K : PySem.W.Frag
  CT : Str → Option Addr
  np : Nat
  xp : Addr → Addr → Addr → Prop
  tt : List (Addr × Str)
abbrev cfg (K : PySem.W.Frag) (CT : Str → Option Addr) (tt : List (Addr × Str)) (n : Nat) : Cfg := ⟨K, CT, n, fun _ _ _ => False, tt⟩
structure Sx where
  e : Env
  a : Nat → List Addr
  s : L2.St
  h : Hp
abbrev NN (N0 : Addr → Prop) (a : Nat → List Addr) : Addr → Prop := fun p => N0 p ∨ ∃ i, p ∈ a i
def Hno : Hp := fun _ => none
theorem sqL_no {K : PySem.W.Frag} {H : Hp} {a : Addr} {xs : List V} (h : SqL K Hno a xs) : SqL K H a xs := by
  rcases h with (h | ⟨o, h⟩) | h
  · cases h
  · cases h
  · exact .inr h
theorem sqT_no {K : PySem.W.Frag} {H : Hp} {a : Addr} {xs : List V} (h : SqT K Hno a xs) : SqT K H a xs := by
  rcases h with (h | ⟨o, h⟩) | h
  · cases h
  · cases h
  · exact .inr h

mutual
/-- v is the datum d; no list or tuple of it is in N -/
inductive Rp (K : PySem.W.Frag) (N : Addr → Prop) (H : Hp) : V → D → Prop
  | non : Rp K N H .non .none
  | bl (b : Bool) : Rp K N H (.bl b) (.bool b)
  | int (i : Int) : Rp K N H (.int i) (.int i)
  | str (x : Str) : Rp K N H (.str x) (.str x)
  | lst {a : Addr} {xs : List V} {ds : List D} : Rd H a (.lst xs) → ¬ N a → xs.length ≤ sizeLine → Rps K N H xs ds → Rp K N H (.ref a) (.list ds)
  | lstW {a : Addr} {xs : List V} {ds : List D} : SqL K Hno a xs → xs.length ≤ sizeLine → Rps K N H xs ds → Rp K N H (.ref a) (.list ds)
  | tup {a : Addr} {xs : List V} {ds : List D} : Rd H a (.tup xs) → ¬ N a → xs.length ≤ sizeLine → Rps K N H xs ds → Rp K N H (.ref a) (.tuple ds)
  | tupW {a : Addr} {xs : List V} {ds : List D} : SqT K Hno a xs → xs.length ≤ sizeLine → Rps K N H xs ds → Rp K N H (.ref a) (.tuple ds)
inductive Rps (K : PySem.W.Frag) (N : Addr → Prop) (H : Hp) : List V → List D → Prop
  | nil : Rps K N H [] []
  | cons {v : V} {vs : List V} {d : D} {ds : List D} : Rp K N H v d → Rps K N H vs ds → Rps K N H (v :: vs) (d :: ds)
end
/-- no table of code objects (those may grow) -/
def NT (o : HO) : Prop := ∀ ps, o ≠ .tbl ps
/-- nothing is there, or a table -/
def NTrk (H : Hp) (p : Addr) : Prop := ∀ o, H p = some o → ¬ NT o
theorem NTrk.of {H : Hp} {p : Addr} (h : H p = none) : NTrk H p := fun o e => by rw [h] at e; cases e
theorem Rd.ntrk {H : Hp} {a : Addr} {u : HO} (h : Rd H a u) (hu : NT u) (e : NTrk H a) : False := by
  rcases h with h | ⟨o, h⟩
  · exact e _ h hu
  · exact e _ h fun _ z => nomatch z
theorem Rd.move {H H' : Hp} {a : Addr} {u : HO} {O : Addr → Prop} (h : Rd H a u) (hx : ∀ b o, H b = some o → ¬ O b → NT o → H' b = some o) (hu : NT u) (no : ¬ O a) : Rd H' a u := by
  rcases h with h | ⟨o, h⟩
  · exact .inl (hx _ _ h no hu)
  · exact .inr ⟨o, hx _ _ h no fun _ z => nomatch z⟩
theorem Rd.some {H : Hp} {a : Addr} {u : HO} (h : Rd H a u) : H a ≠ none := by
  rcases h with h | ⟨o, h⟩ <;> (rw [h]; intro z; cases z)
mutual
/-- the heap changes at O alone, the forbidden places grow by new ones alone -/
theorem Rp.move {K : PySem.W.Frag} {N N' O : Addr → Prop} {H H' : Hp} (hx : ∀ b o, H b = some o → ¬ O b → NT o → H' b = some o) (hO : ∀ p, O p → N p) (hN : ∀ p, N' p → N p ∨ NTrk H p) :
    ∀ {v : V} {d : D}, Rp K N H v d → Rp K N' H' v d
  | _, _, .non => .non
  | _, _, .bl b => .bl b
  | _, _, .int i => .int i
  | _, _, .str x => .str x
  | _, _, .lst h n z r => .lst (Rd.move h hx (fun _ z => nomatch z) fun q => n (hO _ q)) (fun q => (hN _ q).elim n fun e => Rd.ntrk h (fun _ z => nomatch z) e) z (Rps.move hx hO hN r)
  | _, _, .lstW h z r => .lstW h z (Rps.move hx hO hN r)
  | _, _, .tup h n z r => .tup (Rd.move h hx (fun _ z => nomatch z) fun q => n (hO _ q)) (fun q => (hN _ q).elim n fun e => Rd.ntrk h (fun _ z => nomatch z) e) z (Rps.move hx hO hN r)
  | _, _, .tupW h z r => .tupW h z (Rps.move hx hO hN r)
theorem Rps.move {K : PySem.W.Frag} {N N' O : Addr → Prop} {H H' : Hp} (hx : ∀ b o, H b = some o → ¬ O b → NT o → H' b = some o) (hO : ∀ p, O p → N p) (hN : ∀ p, N' p → N p ∨ NTrk H p) :
    ∀ {vs : List V} {ds : List D}, Rps K N H vs ds → Rps K N' H' vs ds
  | _, _, .nil => .nil
  | _, _, .cons h t => .cons (Rp.move hx hO hN h) (Rps.move hx hO hN t)
end
mutual
theorem Rp.dp {K : PySem.W.Frag} {N : Addr → Prop} {H : Hp} : ∀ {v : V} {d : D}, Rp K N H v d → Dp K H v d
  | _, _, .non => .non
  | _, _, .bl b => .bl b
  | _, _, .int i => .int i
  | _, _, .str x => .str x
  | _, _, .lst h _ _ r => .lst (.inl h) (Rps.dp r)
  | _, _, .lstW h _ r => .lst (sqL_no h) (Rps.dp r)
  | _, _, .tup h _ _ r => .tup (.inl h) (Rps.dp r)
  | _, _, .tupW h _ r => .tup (sqT_no h) (Rps.dp r)
theorem Rps.dp {K : PySem.W.Frag} {N : Addr → Prop} {H : Hp} : ∀ {vs : List V} {ds : List D}, Rps K N H vs ds → DpAll K H vs ds
  | _, _, .nil => .nil
  | _, _, .cons h t => .cons (Rp.dp h) (Rps.dp t)
end
section
variable {K : PySem.W.Frag} {N N' : Addr → Prop} {H H' : Hp} {v : V} {d : D} {vs ws : List V} {ds es : List D}
theorem Rps.length (h : Rps K N H vs ds) : vs.length = ds.length := by
  induction vs generalizing ds with
  | nil => cases h; rfl
  | cons a r ih => cases h with | cons h t => simp [ih t]
theorem Rps.get : ∀ {vs : List V} {ds : List D}, Rps K N H vs ds → ∀ {i : Nat} {d : D}, ds[i]? = some d → ∃ v, vs[i]? = some v ∧ Rp K N H v d
  | _, _, .nil, i, d, e => by simp at e
  | _, _, .cons h t, 0, d, e => by
    simp at e; subst e; exact ⟨_, rfl, h⟩
  | _, _, .cons h t, i + 1, d, e => by
    obtain ⟨v, q, r⟩ := Rps.get t (i := i) (d := d) (by simpa using e)
    exact ⟨v, by simpa using q, r⟩
theorem Rps.getV : ∀ {vs : List V} {ds : List D}, Rps K N H vs ds → ∀ {i : Nat} {v : V}, vs[i]? = some v → ∃ d, ds[i]? = some d ∧ Rp K N H v d
  | _, _, .nil, i, d, e => by simp at e
  | _, _, .cons h t, 0, d, e => by
    simp at e; subst e; exact ⟨_, rfl, h⟩
  | _, _, .cons h t, i + 1, d, e => by
    obtain ⟨v, q, r⟩ := Rps.getV t (i := i) (v := d) (by simpa using e)
    exact ⟨v, by simpa using q, r⟩
theorem Rps.append : ∀ {vs : List V} {ds : List D}, Rps K N H vs ds → ∀ {ws : List V} {es : List D}, Rps K N H ws es → Rps K N H (vs ++ ws) (ds ++ es)
  | _, _, .nil, _, _, q => q
  | _, _, .cons h t, _, _, q => .cons h (Rps.append t q)
theorem Rps.drop : ∀ {vs : List V} {ds : List D} (n : Nat), Rps K N H vs ds → Rps K N H (vs.drop n) (ds.drop n)
  | _, _, 0, q => q
  | _, _, _ + 1, .nil => .nil
  | _, _, n + 1, .cons _ t => Rps.drop n t
theorem Rps.take : ∀ {vs : List V} {ds : List D} (n : Nat), Rps K N H vs ds → Rps K N H (vs.take n) (ds.take n)
  | _, _, 0, _ => .nil
  | _, _, _ + 1, .nil => .nil
  | _, _, n + 1, .cons h t => .cons h (Rps.take n t)
theorem Rps.reverse : ∀ {vs : List V} {ds : List D}, Rps K N H vs ds → Rps K N H vs.reverse ds.reverse
  | _, _, .nil => .nil
  | _, _, .cons h t => by
    rw [List.reverse_cons, List.reverse_cons]
    exact Rps.append (Rps.reverse t) (.cons h .nil)
theorem Rps.set : ∀ {vs : List V} {ds : List D} (i : Nat), Rps K N H vs ds → Rp K N H v d → Rps K N H (vs.set i v) (ds.set i d)
  | _, _, _, .nil, _ => .nil
  | _, _, 0, .cons _ t, q => .cons q t
  | _, _, i + 1, .cons h t, q => .cons h (Rps.set i t q)
theorem Rps.last (h : Rps K N H vs ds) (q : Rp K N H v d) : Rps K N H (vs ++ [v]) (ds ++ [d]) := Rps.append h (.cons q .nil)
/-- heaps grow, nothing forbidden anew -/
theorem Rp.same (h : Rp K N H v d) (s : Same H H') : Rp K N H' v d := h.move (O := fun _ => False) (fun b o e _ _ => s b o e) (fun _ z => z.elim) fun _ z => .inl z
theorem Rps.same (h : Rps K N H vs ds) (s : Same H H') : Rps K N H' vs ds := h.move (O := fun _ => False) (fun b o e _ _ => s b o e) (fun _ z => z.elim) fun _ z => .inl z
theorem Rp.mono (h : Rp K N H v d) (s : ∀ p, N' p → N p) : Rp K N' H v d := h.move (O := fun _ => False) (fun b o e _ _ => e) (fun _ z => z.elim) fun _ z => .inl (s _ z)
theorem Rps.mono (h : Rps K N H vs ds) (s : ∀ p, N' p → N p) : Rps K N' H vs ds := h.move (O := fun _ => False) (fun b o e _ _ => e) (fun _ z => z.elim) fun _ z => .inl (s _ z)
theorem Rp.len_list {a : Addr} (h : Rp K N H (.ref a) (.list ds)) : ∃ xs, SqL K H a xs ∧ xs.length ≤ sizeLine ∧ Rps K N H xs ds := by
  cases h with
  | lst h n z r => exact ⟨_, .inl h, z, r⟩
  | lstW h z r => exact ⟨_, sqL_no h, z, r⟩
theorem Rp.len_tup {a : Addr} (h : Rp K N H (.ref a) (.tuple ds)) : ∃ xs, SqT K H a xs ∧ xs.length ≤ sizeLine ∧ Rps K N H xs ds := by
  cases h with
  | tup h n z r => exact ⟨_, .inl h, z, r⟩
  | tupW h z r => exact ⟨_, sqT_no h, z, r⟩
theorem Rp.list (h : Rp K N H v (.list ds)) : ∃ a xs, v = .ref a ∧ SqL K H a xs ∧ xs.length ≤ sizeLine ∧ Rps K N H xs ds := by
  cases h with
  | lst h n z r => exact ⟨_, _, rfl, .inl h, z, r⟩
  | lstW h z r => exact ⟨_, _, rfl, sqL_no h, z, r⟩
theorem Rp.tuple (h : Rp K N H v (.tuple ds)) : ∃ a xs, v = .ref a ∧ SqT K H a xs ∧ xs.length ≤ sizeLine ∧ Rps K N H xs ds := by
  cases h with
  | tup h n z r => exact ⟨_, _, rfl, .inl h, z, r⟩
  | tupW h z r => exact ⟨_, _, rfl, sqT_no h, z, r⟩
theorem same_upd {p : Addr} {o : HO} (hp : H p = none) : Same H (upd H p o) := fun b u e => by rw [upd_ne (ne_of_none e hp)]; exact e
/-- a new list, a new tuple -/
theorem Rps.newL {p : Addr} (r : Rps K N H vs ds) (hp : H p = none) (hz : vs.length ≤ sizeLine) (hN : ∀ q, N q → H q ≠ none) : Rp K N (upd H p (.lst vs)) (.ref p) (.list ds) :=
  .lst (.inl upd_same) (fun q => hN _ q hp) hz (r.same (same_upd hp))
theorem Rps.newT {p : Addr} (r : Rps K N H vs ds) (hp : H p = none) (hz : vs.length ≤ sizeLine) (hN : ∀ q, N q → H q ≠ none) : Rp K N (upd H p (.tup vs)) (.ref p) (.tuple ds) :=
  .tup (.inl upd_same) (fun q => hN _ q hp) hz (r.same (same_upd hp))
end

/-! ### what a slot holds -/
inductive Rkv (K : PySem.W.Frag) (N : Addr → Prop) (H : Hp) : List (Key × V) → List (Str × D) → Prop
  | nil : Rkv K N H [] []
  | cons {k : Str} {v : V} {d : D} {kvs : List (Key × V)} {kds : List (Str × D)} : Rp K N H v d → Rkv K N H kvs kds → Rkv K N H ((.inr k, v) :: kvs) ((k, d) :: kds)
mutual
inductive Sr (c : Cfg) (N : Addr → Prop) (H : Hp) : V → SV → List Addr → Prop
  | d {v : V} {x : D} : Rp c.K N H v x → Sr c N H v (.d x) []
  | ol {p : Addr} {vs : List V} {ds : List D} : H p = some (.lst vs) → vs.length ≤ sizeLine → Rps c.K N H vs ds → Sr c N H (.ref p) (.ol ds) [p]
  | od {p : Addr} {kvs : List (Key × V)} {kds : List (Str × D)} : H p = some (.dK kvs) → Rkv c.K N H kvs kds → Sr c N H (.ref p) (.od kds) [p]
  | oi {p C dx : Addr} {cn : Str} {fvs : List (Str × V)} {fs : List (Str × SV)} {as : List Addr} : H p = some (.ins C dx fvs) → c.CT cn = some C → Srf c N H fvs fs as → Sr c N H (.ref p) (.oi cn fs) (p :: as)
  | xo {p dd C : Addr} {cn : Str} {fvs : List (Str × V)} {fs : List (Str × D)} : c.xp p dd C → c.CT cn = some C → H dd = some (.xd fvs) → ¬ N dd → (∀ n x, fs.lookup n = some x → ∃ v, fvs.lookup n = some v ∧ Rp c.K N H v x) → Sr c N H (.ref p) (.xo cn fs) []
inductive Srf (c : Cfg) (N : Addr → Prop) (H : Hp) : List (Str × V) → List (Str × SV) → List Addr → Prop
  | nil : Srf c N H [] [] []
  | cons {f : Str} {v : V} {sv : SV} {a as : List Addr} {fvs : List (Str × V)} {fs : List (Str × SV)} : Sr c N H v sv a → Srf c N H fvs fs as → Srf c N H ((f, v) :: fvs) ((f, sv) :: fs) (a ++ as)
end
theorem Rkv.move {K : PySem.W.Frag} {N N' O : Addr → Prop} {H H' : Hp} (hx : ∀ b o, H b = some o → ¬ O b → NT o → H' b = some o) (hO : ∀ p, O p → N p) (hN : ∀ p, N' p → N p ∨ NTrk H p) :
    ∀ {kvs : List (Key × V)} {kds : List (Str × D)}, Rkv K N H kvs kds → Rkv K N' H' kvs kds
  | _, _, .nil => .nil
  | _, _, .cons h t => .cons (h.move hx hO hN) (Rkv.move hx hO hN t)
mutual
/-- .. where what changes is another's -/
theorem Sr.move {c : Cfg} {N N' O : Addr → Prop} {H H' : Hp} (hx : ∀ b o, H b = some o → ¬ O b → NT o → H' b = some o) (hO : ∀ p, O p → N p) (hN : ∀ p, N' p → N p ∨ NTrk H p) :
    ∀ {v : V} {sv : SV} {as : List Addr}, Sr c N H v sv as → (∀ p ∈ as, ¬ O p) → Sr c N' H' v sv as
  | _, _, _, .d h, _ => .d (h.move hx hO hN)
  | _, _, _, .ol h z r, n => .ol (hx _ _ h (n _ (by simp)) fun _ z => nomatch z) z (r.move hx hO hN)
  | _, _, _, .od h r, n => .od (hx _ _ h (n _ (by simp)) fun _ z => nomatch z) (r.move hx hO hN)
  | _, _, _, .oi h e r, n => .oi (hx _ _ h (n _ (by simp)) fun _ z => nomatch z) e (Srf.move hx hO hN r fun p hp => n p (by simp [hp]))
  | _, _, _, .xo h1 h2 h3 h4 h5, n => .xo h1 h2 (hx _ _ h3 (fun z => h4 (hO _ z)) fun _ z => nomatch z) (fun q => (hN _ q).elim h4 fun e => (e _ h3 fun _ z => nomatch z).elim) fun n x e => let ⟨v, e1, r⟩ := h5 n x e; ⟨v, e1, r.move hx hO hN⟩
theorem Srf.move {c : Cfg} {N N' O : Addr → Prop} {H H' : Hp} (hx : ∀ b o, H b = some o → ¬ O b → NT o → H' b = some o) (hO : ∀ p, O p → N p) (hN : ∀ p, N' p → N p ∨ NTrk H p) :
    ∀ {v : List (Str × V)} {sv : List (Str × SV)} {as : List Addr}, Srf c N H v sv as → (∀ p ∈ as, ¬ O p) → Srf c N' H' v sv as
  | _, _, _, .nil, _ => .nil
  | _, _, _, .cons h r, n => .cons (Sr.move hx hO hN h fun p hp => n p (by simp [hp])) (Srf.move hx hO hN r fun p hp => n p (by simp [hp]))
end
mutual
theorem Sr.tracked {c : Cfg} {N : Addr → Prop} {H : Hp} : ∀ {v : V} {sv : SV} {as : List Addr}, Sr c N H v sv as → ∀ p ∈ as, H p ≠ none
  | _, _, _, .d h => fun _ z => nomatch z
  | _, _, _, .ol h z r => fun p hp => by
    have e : p = _ := List.mem_singleton.mp hp
    subst e; rw [h]; intro z; cases z
  | _, _, _, .od h r => fun p hp => by
    have e : p = _ := List.mem_singleton.mp hp
    subst e; rw [h]; intro z; cases z
  | _, _, _, .oi h e r => fun p hp => by
    rcases List.mem_cons.mp hp with e | hp
    · subst e; rw [h]; intro z; cases z
    · exact Srf.tracked r p hp
  | _, _, _, .xo _ _ _ _ _ => fun _ z => nomatch z
theorem Srf.tracked {c : Cfg} {N : Addr → Prop} {H : Hp} : ∀ {v : List (Str × V)} {sv : List (Str × SV)} {as : List Addr}, Srf c N H v sv as → ∀ p ∈ as, H p ≠ none
  | _, _, _, .nil => fun _ z => nomatch z
  | _, _, _, .cons h r => fun p hp => (List.mem_append.mp hp).elim (Sr.tracked h p) (Srf.tracked r p)
end
mutual
theorem Sr.kind {c : Cfg} {N : Addr → Prop} {H : Hp} : ∀ {v : V} {sv : SV} {as : List Addr}, Sr c N H v sv as → ∀ p ∈ as, ∃ o, H p = some o ∧ NT o ∧ ∀ r, o ≠ .ext r
  | _, _, _, .d h => fun _ z => nomatch z
  | _, _, _, .ol h z r => fun p hp => by
    have e : p = _ := List.mem_singleton.mp hp
    subst e; exact ⟨_, h, (fun _ z => nomatch z), (fun _ z => nomatch z)⟩
  | _, _, _, .od h r => fun p hp => by
    have e : p = _ := List.mem_singleton.mp hp
    subst e; exact ⟨_, h, (fun _ z => nomatch z), (fun _ z => nomatch z)⟩
  | _, _, _, .oi h e r => fun p hp => by
    rcases List.mem_cons.mp hp with e | hp
    · subst e; exact ⟨_, h, (fun _ z => nomatch z), (fun _ z => nomatch z)⟩
    · exact Srf.kind r p hp
  | _, _, _, .xo _ _ _ _ _ => fun _ z => nomatch z
theorem Srf.kind {c : Cfg} {N : Addr → Prop} {H : Hp} : ∀ {v : List (Str × V)} {sv : List (Str × SV)} {as : List Addr}, Srf c N H v sv as → ∀ p ∈ as, ∃ o, H p = some o ∧ NT o ∧ ∀ r, o ≠ .ext r
  | _, _, _, .nil => fun _ z => nomatch z
  | _, _, _, .cons h r => fun p hp => (List.mem_append.mp hp).elim (Sr.kind h p) (Srf.kind r p)
end
theorem Sr.nown {c : Cfg} {N : Addr → Prop} {H : Hp} {v : V} {sv : SV} {as : List Addr} (h : Sr c N H v sv as) (o : sv.own = false) : as = [] := by
  cases h with
  | d _ => rfl
  | ol _ _ _ => cases o
  | od _ _ => cases o
  | oi _ _ _ => cases o
  | xo _ _ _ _ _ => rfl

theorem Sr.inv_d {c : Cfg} {N : Addr → Prop} {H : Hp} {v : V} {x : D} {as : List Addr} (h : Sr c N H v (.d x) as) : Rp c.K N H v x ∧ as = [] := by
  cases h with
  | d r => exact ⟨r, rfl⟩

/-- what is not of tables is written: they stand -/
theorem tab_put {H : Hp} {P p : Addr} {q : Str} {o o' : HO} (h : TabS H P q) (hp : H p = some o) (h1 : NT o) (h2 : ∀ r, o ≠ .ext r) : TabS (upd H p o') P q := by
  obtain ⟨ps, e1, e2, e4⟩ := h
  refine ⟨ps, ?_, e2, fun pos cv hc => ?_⟩
  · rw [upd_ne fun z => h1 ps (Option.some.inj ((z ▸ hp).symm.trans e1))]; exact e1
  · obtain ⟨k, k1, k2⟩ := e4 pos cv hc
    refine ⟨k, k1, ?_⟩
    have hne : k ≠ p := fun z => by
      rw [z, hp] at k2
      exact h2 _ (Option.some.inj k2)
    rw [upd_ne hne]; exact k2
theorem tab_keep {a : Nat → List Addr} {H H' : Hp} {P : Addr} {q : Str} (h : TabS H P q) (hk : ∀ i p, p ∈ a i → ∃ o, H p = some o ∧ NT o ∧ ∀ r, o ≠ .ext r) (hx : ∀ b o, H b = some o → (¬ ∃ i, b ∈ a i) → H' b = some o) : TabS H' P q := by
  obtain ⟨ps, e1, e2, e4⟩ := h
  refine ⟨ps, hx _ _ e1 fun ⟨i, m⟩ => ?_, e2, fun pos cv hc => ?_⟩
  · obtain ⟨o, h1, h2, _⟩ := hk i P m
    exact h2 ps (Option.some.inj (h1.symm.trans e1))
  · obtain ⟨k, k1, k2⟩ := e4 pos cv hc
    refine ⟨k, k1, hx _ _ k2 fun ⟨i, m⟩ => ?_⟩
    obtain ⟨o, h1, _, h3⟩ := hk i k m
    exact h3 _ (Option.some.inj (h1.symm.trans k2))
/-- the slots and what they own -/
structure ER (c : Cfg) (N0 : Addr → Prop) (S : Sx) : Prop where
  len : S.s.length = S.e.length
  slot : ∀ i sv, S.e[i]? = some sv → sv = .unset ∨ ∃ v, S.s[i]? = some (some v) ∧ Sr c (NN N0 S.a) S.h v sv (S.a i)
  zero : ∀ i, (S.e[i]? = none ∨ S.e[i]? = some .unset) → S.a i = []
  nd : ∀ i, (S.a i).Nodup
  dj : ∀ i j p, p ∈ S.a i → p ∈ S.a j → i = j
  n0 : ∀ i p, p ∈ S.a i → ¬ N0 p
  tr : ∀ p, N0 p → ∃ o, S.h p = some o ∧ NT o
  tb : ∀ p ∈ c.tt, TabS S.h p.1 p.2
/-- the heap changes at what is owned; what is owned anew is new; parameters that are still owned stand; tables may grow -/
structure Stp (c : Cfg) (S S' : Sx) : Prop where
  ln : S.e.length ≤ S'.e.length
  ext : ∀ b o, S.h b = some o → (¬ ∃ i, b ∈ S.a i) → NT o → S'.h b = some o
  new : ∀ i p, p ∈ S'.a i → (∃ j, p ∈ S.a j) ∨ NTrk S.h p
  kp : ∀ i sv, i < c.np ∧ i < S.e.length → S'.e[i]? = some sv → sv.own = true → S'.s[i]? = S.s[i]? ∧ ∃ su, S.e[i]? = some su ∧ su.own = true
section
variable {c : Cfg} {N0 : Addr → Prop} {S S' S'' : Sx} {v : V} {x : D} {vs : List V} {xs : List D}
theorem ER.kind (h : ER c N0 S) {i : Nat} {p : Addr} (m : p ∈ S.a i) : ∃ o, S.h p = some o ∧ NT o ∧ ∀ r, o ≠ .ext r := by
  cases e : S.e[i]? with
  | none => rw [h.zero i (.inl e)] at m; cases m
  | some sv =>
    rcases h.slot i sv e with z | ⟨v, e1, r⟩
    · rw [z] at e; rw [h.zero i (.inr e)] at m; cases m
    · exact Sr.kind r p m
/-- .. where the tables stand too -/
theorem Stp.of (h : ER c N0 S) (ln : S.e.length ≤ S'.e.length) (ext : ∀ b o, S.h b = some o → (¬ ∃ i, b ∈ S.a i) → S'.h b = some o) (new : ∀ i p, p ∈ S'.a i → (∃ j, p ∈ S.a j) ∨ S.h p = none)
    (kp : ∀ i sv, i < c.np ∧ i < S.e.length → S'.e[i]? = some sv → sv.own = true → S'.s[i]? = S.s[i]? ∧ ∃ su, S.e[i]? = some su ∧ su.own = true) : Stp c S S' :=
  ⟨ln, fun b o e n _ => ext b o e n, fun i p m => (new i p m).imp id NTrk.of, kp⟩
/-- .. with fewer owned, the same heap -/
theorem Stp.sub {S1 S2 : Sx} (st : Stp c S S1) (ln : S.e.length ≤ S2.e.length) (hh : S2.h = S1.h) (ha : ∀ i p, p ∈ S2.a i → ∃ j, p ∈ S1.a j) (kp : ∀ i sv, i < c.np ∧ i < S.e.length → S2.e[i]? = some sv → sv.own = true → S2.s[i]? = S.s[i]? ∧ ∃ su, S.e[i]? = some su ∧ su.own = true) : Stp c S S2 :=
  ⟨ln, fun b o e n t => by rw [hh]; exact st.ext b o e n t, fun i p m => let ⟨j, z⟩ := ha i p m; st.new j p z, kp⟩
theorem Stp.refl (S : Sx) : Stp c S S := ⟨Nat.le_refl _, fun _ _ e _ _ => e, fun i p h => .inl ⟨i, h⟩, fun i sv _ h o => ⟨rfl, sv, h, o⟩⟩
theorem Stp.trans (p : Stp c S S') (q : Stp c S' S'') : Stp c S S'' := by
  have nn : ∀ b o, S.h b = some o → NT o → (¬ ∃ i, b ∈ S.a i) → ¬ ∃ i, b ∈ S'.a i := fun b o e t n ⟨i, hb⟩ => by
    rcases p.new i b hb with z | z
    · exact n z
    · exact z o e t
  refine ⟨Nat.le_trans p.ln q.ln, fun b o e n t => ?_, fun i a h => ?_, fun i sv hi h o => ?_⟩
  · exact q.ext b o (p.ext b o e n t) (nn b o e t n) t
  · rcases q.new i a h with ⟨j, z⟩ | z
    · exact p.new j a z
    · by_cases n : ∃ i, a ∈ S.a i
      · exact .inl n
      · exact .inr fun o e t => z o (p.ext a o e n t) t
  · obtain ⟨e1, su, h1, o1⟩ := q.kp i sv ⟨hi.1, Nat.lt_of_lt_of_le hi.2 p.ln⟩ h o
    obtain ⟨e2, su2, h2, o2⟩ := p.kp i su hi h1 o1
    exact ⟨e1.trans e2, su2, h2, o2⟩
theorem Stp.nn (p : Stp c S S') : ∀ q, NN N0 S'.a q → NN N0 S.a q ∨ NTrk S.h q := fun q h => by
  rcases h with h | ⟨i, h⟩
  · exact .inl (.inl h)
  · rcases p.new i q h with z | z
    · exact .inl (.inr z)
    · exact .inr z
theorem Rp.step (h : Rp c.K (NN N0 S.a) S.h v x) (p : Stp c S S') : Rp c.K (NN N0 S'.a) S'.h v x :=
  h.move (O := fun b => ∃ i, b ∈ S.a i) p.ext (fun _ z => .inr z) p.nn
theorem Rps.step (h : Rps c.K (NN N0 S.a) S.h vs xs) (p : Stp c S S') : Rps c.K (NN N0 S'.a) S'.h vs xs :=
  h.move (O := fun b => ∃ i, b ∈ S.a i) p.ext (fun _ z => .inr z) p.nn
theorem ER.own_tr (h : ER c N0 S) : ∀ i p, p ∈ S.a i → S.h p ≠ none := fun i p hp => by
  cases e : S.e[i]? with
  | none => rw [h.zero i (.inl e)] at hp; cases hp
  | some sv =>
    rcases h.slot i sv e with z | ⟨v, _, r⟩
    · rw [h.zero i (.inr (by rw [e, z]))] at hp; cases hp
    · exact r.tracked p hp
theorem ER.trn (h : ER c N0 S) : ∀ p, N0 p → S.h p ≠ none := fun p hp => by
  obtain ⟨o, e, _⟩ := h.tr p hp
  rw [e]; exact fun z => nomatch z
theorem ER.all_tr (h : ER c N0 S) : ∀ p, NN N0 S.a p → S.h p ≠ none := fun p hp => hp.elim (h.trn p) fun ⟨i, z⟩ => h.own_tr i p z
/-- new objects alone -/
theorem ER.grow {H' : Hp} (h : ER c N0 S) (s : Same S.h H') : ER c N0 { S with h := H' } := by
  refine ⟨h.len, fun i sv e => ?_, h.zero, h.nd, h.dj, h.n0, fun p hp => let ⟨o, e, t⟩ := h.tr p hp; ⟨o, s p o e, t⟩, fun p hp => (h.tb p hp).ext s⟩
  rcases h.slot i sv e with z | ⟨v, e1, r⟩
  · exact .inl z
  · exact .inr ⟨v, e1, r.move (O := fun _ => False) (fun b o q _ _ => s b o q) (fun _ z => z.elim) (fun _ z => .inl z) fun _ _ z => z⟩
theorem Stp.grow {H' : Hp} (s : Same S.h H') : Stp c S { S with h := H' } := ⟨Nat.le_refl _, fun b o e _ _ => s b o e, fun i p h => .inl ⟨i, h⟩, fun i sv _ h o => ⟨rfl, sv, h, o⟩⟩
theorem ER.get_d {i : Nat} (h : ER c N0 S) (e : S.e[i]? = some (.d x)) : ∃ v, S.s[i]? = some (some v) ∧ Rp c.K (NN N0 S.a) S.h v x := by
  rcases h.slot i _ e with z | ⟨v, e1, r⟩
  · cases z
  · exact ⟨v, e1, r.inv_d.1⟩
theorem ER.nil_d {i : Nat} {sv : SV} (h : ER c N0 S) (e : S.e[i]? = some sv) (o : sv.own = false) : S.a i = [] := by
  rcases h.slot i _ e with z | ⟨v, e1, r⟩
  · exact h.zero i (.inr (by rw [e, z]))
  · exact r.nown o

/-! slots stored -/
abbrev fup (a : Nat → List Addr) (j : Nat) (r : List Addr) : Nat → List Addr := fun i => if i = j then r else a i
theorem fup_self {a : Nat → List Addr} {j : Nat} {r : List Addr} : fup a j r j = r := if_pos rfl
theorem fup_ne {a : Nat → List Addr} {i j : Nat} {r : List Addr} (h : i ≠ j) : fup a j r i = a i := if_neg h
theorem fup_nil {a : Nat → List Addr} {i j : Nat} {p : Addr} (h : p ∈ fup a j [] i) : p ∈ a i ∧ i ≠ j := by
  by_cases e : i = j
  · rw [e, fup_self] at h; cases h
  · rw [fup_ne e] at h; exact ⟨h, e⟩
/-- plain data stored -/
theorem ER.set_s {e : Env} {a : Nat → List Addr} {σ : L2.St} {H : Hp} {j : Nat} {su : SV} (h : ER c N0 ⟨e, a, σ, H⟩) (hs : Sr c (NN N0 (fup a j [])) H v su []) (ho : su.own = false) :
    ER c N0 ⟨e.set j su, fup a j [], σ.set j (some v), H⟩ ∧ Stp c ⟨e, a, σ, H⟩ ⟨e.set j su, fup a j [], σ.set j (some v), H⟩ := by
  have nn : ∀ p, NN N0 (fup a j []) p → NN N0 a p := fun p hp => hp.elim .inl fun ⟨i, z⟩ => .inr ⟨i, (fup_nil z).1⟩
  have hl : σ.length = e.length := h.len
  refine ⟨⟨by simpa using h.len, fun i sv q => ?_, fun i q => ?_, fun i => ?_, fun i k p h1 h2 => h.dj i k p (fup_nil h1).1 (fup_nil h2).1, fun i p h1 => h.n0 i p (fup_nil h1).1, h.tr, h.tb⟩,
    .of h (by simp) (fun b o q _ => q) (fun i p h1 => .inl ⟨i, (fup_nil h1).1⟩) (fun i sv hi q o => ?_)⟩
  · have q : (e.set j su)[i]? = some sv := q
    by_cases hij : i = j
    · subst hij
      have hlt : i < e.length := by
        have := (List.getElem?_eq_some_iff.mp q).1
        simpa using this
      rw [List.getElem?_set_self hlt] at q
      cases q
      refine .inr ⟨v, by show (σ.set i (some v))[i]? = _; rw [List.getElem?_set_self (by omega)], ?_⟩
      show Sr c (NN N0 (fup a i [])) H v su (fup a i [] i)
      rw [fup_self]
      exact hs
    · rw [List.getElem?_set_ne (Ne.symm hij)] at q
      rcases h.slot i sv q with z | ⟨u, e1, s1⟩
      · exact .inl z
      · refine .inr ⟨u, by show (σ.set j (some v))[i]? = _; rw [List.getElem?_set_ne (Ne.symm hij)]; exact e1, ?_⟩
        show Sr c (NN N0 (fup a j [])) H u sv (fup a j [] i)
        rw [fup_ne hij]
        exact s1.move (O := fun _ => False) (fun b o q _ _ => q) (fun _ z => z.elim) (fun p z => .inl (nn p z)) fun _ _ z => z
  · show fup a j [] i = []
    by_cases hij : i = j
    · rw [hij, fup_self]
    · rw [fup_ne hij]
      have q : (e.set j su)[i]? = none ∨ (e.set j su)[i]? = some .unset := q
      rw [List.getElem?_set_ne (Ne.symm hij)] at q
      exact h.zero i q
  · show (fup a j [] i).Nodup
    by_cases hij : i = j
    · rw [hij, fup_self]; exact List.nodup_nil
    · rw [fup_ne hij]; exact h.nd i
  · have q : (e.set j su)[i]? = some sv := q
    by_cases hij : i = j
    · subst hij
      have hlt : i < e.length := by
        have := (List.getElem?_eq_some_iff.mp q).1
        simpa using this
      rw [List.getElem?_set_self hlt] at q
      cases q
      rw [ho] at o; cases o
    · rw [List.getElem?_set_ne (Ne.symm hij)] at q
      exact ⟨by show (σ.set j (some v))[i]? = σ[i]?; rw [List.getElem?_set_ne (Ne.symm hij)], sv, q, o⟩
theorem ER.set_d {e : Env} {a : Nat → List Addr} {σ : L2.St} {H : Hp} {j : Nat} (h : ER c N0 ⟨e, a, σ, H⟩) (r : Rp c.K (NN N0 a) H v x) :
    ER c N0 ⟨e.set j (.d x), fup a j [], σ.set j (some v), H⟩ ∧ Stp c ⟨e, a, σ, H⟩ ⟨e.set j (.d x), fup a j [], σ.set j (some v), H⟩ :=
  h.set_s (.d (r.mono fun p hp => hp.elim .inl fun ⟨i, z⟩ => .inr ⟨i, (fup_nil z).1⟩)) rfl
/-- a result that stands behind the slots: stored -/
theorem ER.store {e : Env} {a : Nat → List Addr} {σ : L2.St} {H : Hp} {j : Nat} {sv : SV} (h : ER c N0 ⟨e ++ [sv], a, σ ++ [some v], H⟩) (hj : c.np ≤ j) (hj2 : j < e.length) :
    ER c N0 ⟨e.set j sv, fun i => if i = j then a e.length else if i = e.length then [] else a i, σ.set j (some v), H⟩ ∧
      ∀ S : Sx, S.e.length ≤ e.length → Stp c S ⟨e ++ [sv], a, σ ++ [some v], H⟩ → Stp c S ⟨e.set j sv, fun i => if i = j then a e.length else if i = e.length then [] else a i, σ.set j (some v), H⟩ := by
  have hl : σ.length = e.length := by have q : (σ ++ [some v]).length = (e ++ [sv]).length := h.len; simpa using q
  have at_ : ∀ i p, p ∈ (if i = j then a e.length else if i = e.length then [] else a i) → (i = j ∧ p ∈ a e.length) ∨ (i ≠ j ∧ i ≠ e.length ∧ p ∈ a i) := fun i p hp => by
    by_cases h1 : i = j
    · rw [if_pos h1] at hp; exact .inl ⟨h1, hp⟩
    · rw [if_neg h1] at hp
      by_cases h2 : i = e.length
      · rw [if_pos h2] at hp; cases hp
      · rw [if_neg h2] at hp; exact .inr ⟨h1, h2, hp⟩
  have ex : ∀ i p, p ∈ (if i = j then a e.length else if i = e.length then [] else a i) → ∃ k, p ∈ a k := fun i p hp => (at_ i p hp).elim (fun z => ⟨_, z.2⟩) fun z => ⟨_, z.2.2⟩
  have nn : ∀ p, NN N0 (fun i => if i = j then a e.length else if i = e.length then [] else a i) p → NN N0 a p := fun p hp => hp.elim .inl fun ⟨i, z⟩ => .inr (ex i p z)
  have sl : ∀ i su, i ≠ j → e[i]? = some su → su = .unset ∨ ∃ u, σ[i]? = some (some u) ∧ Sr c (NN N0 a) H u su (a i) := fun i su _ q => by
    have hlt : i < e.length := (List.getElem?_eq_some_iff.mp q).1
    rcases h.slot i su (by show (e ++ [sv])[i]? = _; rw [List.getElem?_append_left hlt]; exact q) with z | ⟨u, e1, s1⟩
    · exact .inl z
    · have e1 : (σ ++ [some v])[i]? = some (some u) := e1
      rw [List.getElem?_append_left (by omega)] at e1
      exact .inr ⟨u, e1, s1⟩
  refine ⟨⟨by show (σ.set j (some v)).length = (e.set j sv).length; simpa using hl, fun i su q => ?_, fun i q => ?_, fun i => ?_, fun i k p h1 h2 => ?_, fun i p h1 => ?_, h.tr, h.tb⟩, fun S hS st => st.sub (by simpa using hS) rfl ex (fun i su hi q o => ?_)⟩
  · have q : (e.set j sv)[i]? = some su := q
    by_cases hij : i = j
    · subst hij
      rw [List.getElem?_set_self hj2] at q
      cases q
      rcases h.slot e.length sv (by show (e ++ [sv])[e.length]? = _; simp) with z | ⟨u, e1, s1⟩
      · exact .inl z
      · have e1 : (σ ++ [some v])[e.length]? = some (some u) := e1
        rw [← hl] at e1
        simp at e1
        subst e1
        refine .inr ⟨v, by show (σ.set i (some v))[i]? = _; rw [List.getElem?_set_self (by omega)], ?_⟩
        show Sr c _ H v sv (if i = i then a e.length else if i = e.length then [] else a i)
        rw [if_pos rfl]
        exact s1.move (O := fun _ => False) (fun b o q _ _ => q) (fun _ z => z.elim) (fun p z => .inl (nn p z)) fun _ _ z => z
    · rw [List.getElem?_set_ne (Ne.symm hij)] at q
      have hlt : i < e.length := (List.getElem?_eq_some_iff.mp q).1
      rcases sl i su hij q with z | ⟨u, e1, s1⟩
      · exact .inl z
      · refine .inr ⟨u, by show (σ.set j (some v))[i]? = _; rw [List.getElem?_set_ne (Ne.symm hij)]; exact e1, ?_⟩
        show Sr c _ H u su (if i = j then a e.length else if i = e.length then [] else a i)
        rw [if_neg hij, if_neg (by omega)]
        exact s1.move (O := fun _ => False) (fun b o q _ _ => q) (fun _ z => z.elim) (fun p z => .inl (nn p z)) fun _ _ z => z
  · show (if i = j then a e.length else if i = e.length then [] else a i) = []
    have q : (e.set j sv)[i]? = none ∨ (e.set j sv)[i]? = some .unset := q
    by_cases hij : i = j
    · subst hij
      rw [List.getElem?_set_self hj2] at q
      rw [if_pos rfl]
      rcases q with q | q
      · cases q
      · cases q
        exact h.zero e.length (.inr (by show (e ++ [SV.unset])[e.length]? = _; simp))
    · rw [if_neg hij]
      by_cases h2 : i = e.length
      · rw [if_pos h2]
      · rw [if_neg h2]
        rw [List.getElem?_set_ne (Ne.symm hij)] at q
        refine h.zero i ?_
        show (e ++ [sv])[i]? = none ∨ (e ++ [sv])[i]? = some .unset
        rcases q with q | q
        · have : e.length ≤ i := List.getElem?_eq_none_iff.mp q
          exact .inl (List.getElem?_eq_none (by simp; omega))
        · exact .inr (by rw [List.getElem?_append_left (List.getElem?_eq_some_iff.mp q).1]; exact q)
  · show (if i = j then a e.length else if i = e.length then [] else a i).Nodup
    by_cases hij : i = j
    · rw [if_pos hij]; exact h.nd _
    · rw [if_neg hij]
      by_cases h2 : i = e.length
      · rw [if_pos h2]; exact List.nodup_nil
      · rw [if_neg h2]; exact h.nd i
  · rcases at_ i p h1 with ⟨e1, m1⟩ | ⟨n1, n2, m1⟩ <;> rcases at_ k p h2 with ⟨e2, m2⟩ | ⟨n3, n4, m2⟩
    · exact e1.trans e2.symm
    · exact absurd (h.dj _ _ p m1 m2).symm n4
    · exact absurd (h.dj _ _ p m1 m2) n2
    · exact h.dj _ _ p m1 m2
  · obtain ⟨k, m⟩ := ex i p h1
    exact h.n0 k p m
  · have q : (e.set j sv)[i]? = some su := q
    have hij : i ≠ j := by omega
    have hie : i < e.length := by omega
    rw [List.getElem?_set_ne (Ne.symm hij)] at q
    obtain ⟨k1, k2⟩ := st.kp i su hi (by show (e ++ [sv])[i]? = _; rw [List.getElem?_append_left hie]; exact q) o
    refine ⟨?_, k2⟩
    have k1 : (σ ++ [some v])[i]? = S.s[i]? := k1
    rw [List.getElem?_append_left (by omega)] at k1
    show (σ.set j (some v))[i]? = S.s[i]?
    rw [List.getElem?_set_ne (Ne.symm hij)]
    exact k1
/-- a result dropped -/
theorem ER.drop {e : Env} {a : Nat → List Addr} {σ : L2.St} {H : Hp} {sv : SV} (h : ER c N0 ⟨e ++ [sv], a, σ ++ [some v], H⟩) :
    ER c N0 ⟨e, fup a e.length [], σ, H⟩ ∧ ∀ S : Sx, S.e.length ≤ e.length → Stp c S ⟨e ++ [sv], a, σ ++ [some v], H⟩ → Stp c S ⟨e, fup a e.length [], σ, H⟩ := by
  have hl : σ.length = e.length := by have q : (σ ++ [some v]).length = (e ++ [sv]).length := h.len; simpa using q
  have nn : ∀ p, NN N0 (fup a e.length []) p → NN N0 a p := fun p hp => hp.elim .inl fun ⟨i, z⟩ => .inr ⟨i, (fup_nil z).1⟩
  refine ⟨⟨hl, fun i su q => ?_, fun i q => ?_, fun i => ?_, fun i k p h1 h2 => h.dj i k p (fup_nil h1).1 (fup_nil h2).1, fun i p h1 => h.n0 i p (fup_nil h1).1, h.tr, h.tb⟩,
    fun S hS st => st.sub hS rfl (fun i p h1 => ⟨i, (fup_nil h1).1⟩) (fun i su hi q o => ?_)⟩
  · have q : e[i]? = some su := q
    have hlt : i < e.length := (List.getElem?_eq_some_iff.mp q).1
    rcases h.slot i su (by show (e ++ [sv])[i]? = _; rw [List.getElem?_append_left hlt]; exact q) with z | ⟨u, e1, s1⟩
    · exact .inl z
    · have e1 : (σ ++ [some v])[i]? = some (some u) := e1
      rw [List.getElem?_append_left (by omega)] at e1
      refine .inr ⟨u, e1, ?_⟩
      show Sr c (NN N0 (fup a e.length [])) H u su (fup a e.length [] i)
      rw [fup_ne (by omega)]
      exact s1.move (O := fun _ => False) (fun b o q _ _ => q) (fun _ z => z.elim) (fun p z => .inl (nn p z)) fun _ _ z => z
  · show fup a e.length [] i = []
    by_cases hi : i = e.length
    · rw [hi, fup_self]
    · rw [fup_ne hi]
      have q : e[i]? = none ∨ e[i]? = some .unset := q
      refine h.zero i ?_
      show (e ++ [sv])[i]? = none ∨ (e ++ [sv])[i]? = some .unset
      rcases q with q | q
      · have : e.length ≤ i := List.getElem?_eq_none_iff.mp q
        exact .inl (List.getElem?_eq_none (by simp; omega))
      · exact .inr (by rw [List.getElem?_append_left (List.getElem?_eq_some_iff.mp q).1]; exact q)
  · show (fup a e.length [] i).Nodup
    by_cases hi : i = e.length
    · rw [hi, fup_self]; exact List.nodup_nil
    · rw [fup_ne hi]; exact h.nd i
  · have q : e[i]? = some su := q
    have hlt : i < e.length := (List.getElem?_eq_some_iff.mp q).1
    obtain ⟨k1, k2⟩ := st.kp i su hi (by show (e ++ [sv])[i]? = _; rw [List.getElem?_append_left hlt]; exact q) o
    have k1 : (σ ++ [some v])[i]? = S.s[i]? := k1
    rw [List.getElem?_append_left (by omega)] at k1
    exact ⟨k1, k2⟩
/-- plain data as a result behind the slots -/
theorem ER.push_d {e : Env} {a : Nat → List Addr} {σ : L2.St} {H : Hp} (h : ER c N0 ⟨e, a, σ, H⟩) (r : Rp c.K (NN N0 a) H v x) :
    ER c N0 ⟨e ++ [.d x], a, σ ++ [some v], H⟩ ∧ ∀ S : Sx, Stp c S ⟨e, a, σ, H⟩ → Stp c S ⟨e ++ [.d x], a, σ ++ [some v], H⟩ := by
  have hl : σ.length = e.length := h.len
  have key : ∀ i su, (e ++ [SV.d x])[i]? = some su → (e[i]? = some su ∧ i < e.length) ∨ (i = e.length ∧ su = .d x) := fun i su q => by
    by_cases hi : i < e.length
    · rw [List.getElem?_append_left hi] at q; exact .inl ⟨q, hi⟩
    · rw [List.getElem?_append_right (by omega)] at q
      have hlt := (List.getElem?_eq_some_iff.mp q).1
      have e0 : i - e.length = 0 := by simpa using hlt
      rw [e0] at q
      cases q
      exact .inr ⟨by omega, rfl⟩
  refine ⟨⟨by show (σ ++ [some v]).length = (e ++ [SV.d x]).length; simpa using hl, fun i su q => ?_, fun i q => ?_, h.nd, h.dj, h.n0, h.tr, h.tb⟩, fun S st => st.sub ?_ rfl (fun i p m => ⟨i, m⟩) (fun i su hi q o => ?_)⟩
  · rcases key i su q with ⟨q, hi⟩ | ⟨hi, z⟩
    · rcases h.slot i su q with z | ⟨u, e1, s1⟩
      · exact .inl z
      · exact .inr ⟨u, by show (σ ++ [some v])[i]? = _; rw [List.getElem?_append_left (by omega)]; exact e1, s1⟩
    · subst hi; subst z
      refine .inr ⟨v, by show (σ ++ [some v])[e.length]? = _; rw [← hl]; simp, ?_⟩
      have z : a e.length = [] := h.zero e.length (.inl (by show e[e.length]? = none; simp))
      show Sr c (NN N0 a) H v (.d x) (a e.length)
      rw [z]
      exact .d r
  · have q : (e ++ [SV.d x])[i]? = none ∨ (e ++ [SV.d x])[i]? = some .unset := q
    refine h.zero i ?_
    rcases q with q | q
    · have : (e ++ [SV.d x]).length ≤ i := List.getElem?_eq_none_iff.mp q
      exact .inl (List.getElem?_eq_none (by simp at this; show e.length ≤ i; omega))
    · rcases key i _ q with ⟨q, hi⟩ | ⟨hi, z⟩
      · exact .inr q
      · cases z
  · exact Nat.le_trans st.ln (by show e.length ≤ (e ++ [SV.d x]).length; simp)
  · rcases key i su q with ⟨q, hlt⟩ | ⟨hi2, z⟩
    · obtain ⟨k1, k2⟩ := st.kp i su hi q o
      exact ⟨by show (σ ++ [some v])[i]? = _; rw [List.getElem?_append_left (by omega)]; exact k1, k2⟩
    · subst z; cases o
/-- an own thing changed, what it owns with it -/
theorem ER.chg {e : Env} {a : Nat → List Addr} {σ : L2.St} {H H' : Hp} {i : Nat} {sv sv' : SV} {as' : List Addr} (h : ER c N0 ⟨e, a, σ, H⟩) (q : e[i]? = some sv) (o : sv.own = true) (hv : σ[i]? = some (some v))
    (hx : ∀ b o, H b = some o → b ∉ a i → H' b = some o) (ha : ∀ p ∈ as', p ∈ a i ∨ H p = none) (hn : as'.Nodup) (hs : Sr c (NN N0 (fup a i as')) H' v sv' as') (o' : sv'.own = true) :
    ER c N0 ⟨e.set i sv', fup a i as', σ, H'⟩ ∧ Stp c ⟨e, a, σ, H⟩ ⟨e.set i sv', fup a i as', σ, H'⟩ := by
  have hl : σ.length = e.length := h.len
  have hlt : i < e.length := (List.getElem?_eq_some_iff.mp q).1
  have at_ : ∀ k p, p ∈ fup a i as' k → (k = i ∧ p ∈ as') ∨ (k ≠ i ∧ p ∈ a k) := fun k p hp => by
    by_cases hk : k = i
    · rw [hk, fup_self] at hp; exact .inl ⟨hk, hp⟩
    · rw [fup_ne hk] at hp; exact .inr ⟨hk, hp⟩
  have nw : ∀ k p, p ∈ fup a i as' k → (∃ j, p ∈ a j) ∨ H p = none := fun k p hp => by
    rcases at_ k p hp with ⟨_, m⟩ | ⟨_, m⟩
    · exact (ha p m).imp (fun z => ⟨i, z⟩) id
    · exact .inl ⟨k, m⟩
  have nn : ∀ p, NN N0 (fup a i as') p → NN N0 a p ∨ NTrk H p := fun p hp => by
    rcases hp with hp | ⟨k, m⟩
    · exact .inl (.inl hp)
    · exact (nw k p m).imp .inr NTrk.of
  have ne : ∀ k, (e.set i sv')[k]? = (if k = i then some sv' else e[k]?) := fun k => by
    by_cases hk : k = i
    · rw [hk, if_pos rfl, List.getElem?_set_self hlt]
    · rw [if_neg hk, List.getElem?_set_ne (Ne.symm hk)]
  refine ⟨⟨by show σ.length = (e.set i sv').length; simpa using hl, fun k su z => ?_, fun k z => ?_, fun k => ?_, fun j k p h1 h2 => ?_, fun k p h1 => ?_, fun p hp => ?_, fun p hp => tab_keep (h.tb p hp) (fun i q m => h.kind m) fun b ob e1 n => hx b ob e1 fun m => n ⟨i, m⟩⟩, .of h (by simp) (fun b ob e1 n => hx b ob e1 fun m => n ⟨i, m⟩) nw (fun k su hk z oo => ?_)⟩
  · have z : (e.set i sv')[k]? = some su := z
    rw [ne k] at z
    by_cases hk : k = i
    · rw [if_pos hk] at z
      cases z
      subst hk
      refine .inr ⟨v, hv, ?_⟩
      show Sr c _ H' v sv' (fup a k as' k)
      rw [fup_self]
      exact hs
    · rw [if_neg hk] at z
      rcases h.slot k su z with z | ⟨u, e1, s1⟩
      · exact .inl z
      · refine .inr ⟨u, e1, ?_⟩
        show Sr c _ H' u su (fup a i as' k)
        rw [fup_ne hk]
        exact s1.move (O := fun b => b ∈ a i) (fun b ob e1 n _ => hx b ob e1 n) (fun p m => .inr ⟨i, m⟩) nn fun p m1 m2 => hk (h.dj _ _ p m1 m2)
  · show fup a i as' k = []
    have z : (e.set i sv')[k]? = none ∨ (e.set i sv')[k]? = some .unset := z
    rw [ne k] at z
    by_cases hk : k = i
    · rw [if_pos hk] at z
      rcases z with z | z
      · cases z
      · cases z; cases o'
    · rw [if_neg hk] at z
      rw [fup_ne hk]
      exact h.zero k z
  · show (fup a i as' k).Nodup
    by_cases hk : k = i
    · rw [hk, fup_self]; exact hn
    · rw [fup_ne hk]; exact h.nd k
  · rcases at_ j p h1 with ⟨e1, m1⟩ | ⟨n1, m1⟩ <;> rcases at_ k p h2 with ⟨e2, m2⟩ | ⟨n2, m2⟩
    · exact e1.trans e2.symm
    · rcases ha p m1 with z | z
      · exact absurd (h.dj _ _ p m2 z) n2
      · exact absurd z (h.own_tr k p m2)
    · rcases ha p m2 with z | z
      · exact absurd (h.dj _ _ p m1 z) n1
      · exact absurd z (h.own_tr j p m1)
    · exact h.dj _ _ p m1 m2
  · rcases at_ k p h1 with ⟨e1, m1⟩ | ⟨n1, m1⟩
    · rcases ha p m1 with z | z
      · exact h.n0 i p z
      · exact fun y => h.trn p y z
    · exact h.n0 k p m1
  · obtain ⟨o, e1, t⟩ := h.tr p hp
    exact ⟨o, hx p o e1 fun m => h.n0 i p m hp, t⟩
  · have z : (e.set i sv')[k]? = some su := z
    rw [ne k] at z
    by_cases hk2 : k = i
    · rw [if_pos hk2] at z
      cases z
      subst hk2
      exact ⟨rfl, sv, q, o⟩
    · rw [if_neg hk2] at z
      exact ⟨rfl, su, z, oo⟩
theorem ER.get_ol {i : Nat} {ds : List D} (h : ER c N0 S) (e : S.e[i]? = some (.ol ds)) : ∃ p vs, S.s[i]? = some (some (.ref p)) ∧ S.h p = some (.lst vs) ∧ vs.length ≤ sizeLine ∧ Rps c.K (NN N0 S.a) S.h vs ds ∧ S.a i = [p] := by
  rcases h.slot i _ e with z | ⟨v, e1, r⟩
  · cases z
  · generalize ha : S.a i = as at r
    cases r with
    | ol h1 z r => exact ⟨_, _, e1, h1, z, r, rfl⟩
/-- an own list written -/
theorem ER.upd_ol {e : Env} {a : Nat → List Addr} {σ : L2.St} {H : Hp} {i : Nat} {ds ds' : List D} {p : Addr} {vs' : List V} (h : ER c N0 ⟨e, a, σ, H⟩) (q : e[i]? = some (.ol ds)) (hv : σ[i]? = some (some (.ref p))) (ha : a i = [p])
    (hz : vs'.length ≤ sizeLine) (r : Rps c.K (NN N0 a) H vs' ds') :
    ER c N0 ⟨e.set i (.ol ds'), a, σ, upd H p (.lst vs')⟩ ∧ Stp c ⟨e, a, σ, H⟩ ⟨e.set i (.ol ds'), a, σ, upd H p (.lst vs')⟩ := by
  have hx : ∀ b o, H b = some o → b ∉ a i → upd H p (.lst vs') b = some o := fun b o e1 n => by
    rw [upd_ne (fun z => n (by rw [ha, z]; simp))]; exact e1
  have ef : fup a i [p] = a := by
    funext k
    by_cases hk : k = i
    · rw [hk, fup_self, ha]
    · rw [fup_ne hk]
  have key := h.chg (H' := upd H p (.lst vs')) (sv' := .ol ds') (as' := [p]) q rfl hv hx (fun b hb => .inl (by rw [ha]; exact hb)) (by simp)
    (by
      rw [ef]
      exact .ol upd_same hz (r.move (O := fun b => b ∈ a i) (fun b o e n _ => hx b o e n) (fun b m => .inr ⟨i, m⟩) fun b z => .inl z)) rfl
  rw [ef] at key
  exact key
end
end VL
namespace VL
open PySem PySem.Spec PyProof.Rows L2
mutual
theorem Sr.np {c c' : Cfg} (hK : c.K = c'.K) (hC : c.CT = c'.CT) (hX : ∀ p d k, c.xp p d k → c'.xp p d k) {N : Addr → Prop} {H : Hp} : ∀ {v : V} {sv : SV} {as : List Addr}, Sr c N H v sv as → Sr c' N H v sv as
  | _, _, _, .d h => .d (hK ▸ h)
  | _, _, _, .ol h z r => .ol h z (hK ▸ r)
  | _, _, _, .od h r => .od h (hK ▸ r)
  | _, _, _, .oi h e r => .oi h (hC ▸ e) (Srf.np hK hC hX r)
  | _, _, _, .xo h1 h2 h3 h4 h5 => .xo (hX _ _ _ h1) (hC ▸ h2) h3 h4 (hK ▸ h5)
theorem Srf.np {c c' : Cfg} (hK : c.K = c'.K) (hC : c.CT = c'.CT) (hX : ∀ p d k, c.xp p d k → c'.xp p d k) {N : Addr → Prop} {H : Hp} : ∀ {v : List (Str × V)} {sv : List (Str × SV)} {as : List Addr}, Srf c N H v sv as → Srf c' N H v sv as
  | _, _, _, .nil => .nil
  | _, _, _, .cons h r => .cons (Sr.np hK hC hX h) (Srf.np hK hC hX r)
end
end VL

set_option Elab.async false
set_option autoImplicit false
set_option linter.all false
set_option maxRecDepth 100000
set_option maxHeartbeats 4000000
/-! VL2: the readings tD, tT, tL, tO, and the rules of expressions. -/
namespace VL
open PySem PySem.Spec PyProof.Rows L2

def Fr (K : PySem.W.Frag) (N : Addr → Prop) (H : Hp) (fvs : List (Str × V)) (fs : List (Str × D)) : Prop := ∀ n x, fs.lookup n = some x → ∃ v, fvs.lookup n = some v ∧ Rp K N H v x
def PErr (c : Cfg) (W : WX) (N0 : Addr → Prop) (S : Sx) (cn : Str) (fs : List (Str × D)) (e' : Env) : Prop :=
  ∀ a' s' H' C dd fvs, ER c N0 ⟨e', a', s', H'⟩ → Stp c S ⟨e', a', s', H'⟩ → c.CT cn = some C → H' dd = some (.xd fvs) → Fr c.K (NN N0 a') H' fvs fs → ¬ NN N0 a' dd → W (.ref C) (some dd) s' H'
/-- .. with the slots' own state unchanged (an expression) -/
def PErrX (c : Cfg) (W : WX) (N0 : Addr → Prop) (S : Sx) (cn : Str) (fs : List (Str × D)) (e' : Env) : Prop :=
  ∀ a' H' C dd fvs, ER c N0 ⟨e', a', S.s, H'⟩ → Stp c S ⟨e', a', S.s, H'⟩ → c.CT cn = some C → H' dd = some (.xd fvs) → Fr c.K (NN N0 a') H' fvs fs → ¬ NN N0 a' dd → W (.ref C) (some dd) S.s H'
theorem PErr.x {c : Cfg} {W : WX} {N0 : Addr → Prop} {S : Sx} {cn : Str} {fs : List (Str × D)} {e' : Env} (h : PErr c W N0 S cn fs e') : PErrX c W N0 S cn fs e' := fun a' H' => h a' S.s H'
def Post {α : Type} (c : Cfg) (W : WX) (N0 : Addr → Prop) (S : Sx) (r : Res α) (P : α → Env → (Nat → List Addr) → Hp → Prop) : Prop := match r with
  | .ok x e' => ∀ a' H', ER c N0 ⟨e', a', S.s, H'⟩ → Stp c S ⟨e', a', S.s, H'⟩ → P x e' a' H'
  | .err cn fs e' => PErrX c W N0 S cn fs e'
  | .stuck => False
theorem PErr.from {c : Cfg} {W : WX} {N0 : Addr → Prop} {S S' : Sx} {cn : Str} {fs : List (Str × D)} {e' : Env} (h : PErr c W N0 S cn fs e') (p : Stp c S S') : PErr c W N0 S' cn fs e' :=
  fun a' s' H' C dd fvs er st => h a' s' H' C dd fvs er (p.trans st)
theorem PErrX.from {c : Cfg} {W : WX} {N0 : Addr → Prop} {S S' : Sx} {cn : Str} {fs : List (Str × D)} {e' : Env} (h : PErrX c W N0 S cn fs e') (p : Stp c S S') (hs : S'.s = S.s) : PErrX c W N0 S' cn fs e' := by
  intro a' H' C dd fvs er st
  rw [hs] at er st ⊢
  exact h a' H' C dd fvs er (p.trans st)
theorem Post.from {α : Type} {c : Cfg} {W : WX} {N0 : Addr → Prop} {S S' : Sx} {r : Res α} {P : α → Env → (Nat → List Addr) → Hp → Prop} (h : Post c W N0 S r P) (p : Stp c S S') (hs : S'.s = S.s) : Post c W N0 S' r P := by
  cases r with
  | ok x e' =>
    intro a' H' er st
    rw [hs] at er st
    exact h a' H' er (p.trans st)
  | err cn fs e' => exact PErrX.from (show PErrX c W N0 S cn fs e' from h) p hs
  | stuck => exact h

abbrev okD (c : Cfg) (N0 : Addr → Prop) (Q : VK) : D → Env → (Nat → List Addr) → Hp → Prop := fun x _ a' H' => ∀ v, Rp c.K (NN N0 a') H' v x → Q v H'
abbrev okT (Q : Bool → Hp → Prop) : Bool → Env → (Nat → List Addr) → Hp → Prop := fun b _ _ H' => Q b H'
abbrev okL (c : Cfg) (N0 : Addr → Prop) (Q : List V → Hp → Prop) : List D → Env → (Nat → List Addr) → Hp → Prop := fun xs _ a' H' => ∀ vs, Rps c.K (NN N0 a') H' vs xs → Q vs H'
/-- an expression that is plain data; a test; expressions in a row -/
def tD (c : Cfg) (W : WX) (F : Md D) : TE := fun σ H Q => ∃ N0 e a, ER c N0 ⟨e, a, σ, H⟩ ∧ Post c W N0 ⟨e, a, σ, H⟩ (F e) (okD c N0 Q)
def tT (c : Cfg) (W : WX) (F : Md Bool) : TT := fun σ H Q => ∃ N0 e a, ER c N0 ⟨e, a, σ, H⟩ ∧ Post c W N0 ⟨e, a, σ, H⟩ (F e) (okT Q)
def tL (c : Cfg) (W : WX) (F : Md (List D)) : TA := fun σ H Q => ∃ N0 e a, ER c N0 ⟨e, a, σ, H⟩ ∧ Post c W N0 ⟨e, a, σ, H⟩ (F e) (okL c N0 Q)

theorem PE.imp {X : Cx} {e : Expr} {t t' : TE} (h : PE X e t) (i : ∀ σ H Q, t' σ H Q → t σ H Q) : PE X e t' := ⟨fun pins s σ H Q I q => h.run pins s σ H Q I (i σ H Q q)⟩
theorem PT.imp {X : Cx} {e : Expr} {t t' : TT} (h : PT X e t) (i : ∀ σ H Q, t' σ H Q → t σ H Q) : PT X e t' := ⟨fun pins s σ H Q I q => h.run pins s σ H Q I (i σ H Q q)⟩
theorem PA.imp {X : Cx} {e : List Expr} {t t' : TA} (h : PA X e t) (i : ∀ σ H Q, t' σ H Q → t σ H Q) : PA X e t' := ⟨fun pos pins s σ H Q I q => h.run pos pins s σ H Q I (i σ H Q q)⟩
theorem PS.imp {X : Cx} {st : Stmt} {t t' : TS} (h : PS X st t) (i : ∀ D σ H, t' D σ H → t D σ H) : PS X st t' := ⟨fun pins s σ H D I q => h.run pins s σ H D I (i D σ H q)⟩
theorem PSs.imp {X : Cx} {st : List Stmt} {t t' : TS} (h : PSs X st t) (i : ∀ D σ H, t' D σ H → t D σ H) : PSs X st t' := ⟨fun pins s σ H D I q => h.run pins s σ H D I (i D σ H q)⟩

section
variable {c : Cfg} {W : WX} {N0 : Addr → Prop} {S : Sx} {e : Env} {a : Nat → List Addr} {σ : L2.St} {H : Hp} {β : Type}
/-- a part is read, then the rest -/
theorem bindD {F : Md D} {k : D → Md β} {P : β → Env → (Nat → List Addr) → Hp → Prop} {R : VK} (er : ER c N0 ⟨e, a, σ, H⟩) (h : Post c W N0 ⟨e, a, σ, H⟩ (bnd F k e) P)
    (g : ∀ x e1 a1 H1 v, ER c N0 ⟨e1, a1, σ, H1⟩ → Stp c ⟨e, a, σ, H⟩ ⟨e1, a1, σ, H1⟩ → Rp c.K (NN N0 a1) H1 v x → Post c W N0 ⟨e1, a1, σ, H1⟩ (k x e1) P → R v H1) : tD c W F σ H R := by
  refine ⟨N0, e, a, er, ?_⟩
  unfold bnd at h
  revert h
  generalize F e = r
  cases r with
  | ok x e1 => exact fun h a1 H1 er1 st v rv => g x e1 a1 H1 v er1 st rv (Post.from h st rfl)
  | err cn fs e1 => exact fun h => h
  | stuck => exact fun h => h
theorem bindT {F : Md Bool} {k : Bool → Md β} {P : β → Env → (Nat → List Addr) → Hp → Prop} {R : Bool → Hp → Prop} (er : ER c N0 ⟨e, a, σ, H⟩) (h : Post c W N0 ⟨e, a, σ, H⟩ (bnd F k e) P)
    (g : ∀ x e1 a1 H1, ER c N0 ⟨e1, a1, σ, H1⟩ → Stp c ⟨e, a, σ, H⟩ ⟨e1, a1, σ, H1⟩ → Post c W N0 ⟨e1, a1, σ, H1⟩ (k x e1) P → R x H1) : tT c W F σ H R := by
  refine ⟨N0, e, a, er, ?_⟩
  unfold bnd at h
  revert h
  generalize F e = r
  cases r with
  | ok x e1 => exact fun h a1 H1 er1 st => g x e1 a1 H1 er1 st (Post.from h st rfl)
  | err cn fs e1 => exact fun h => h
  | stuck => exact fun h => h
theorem bindL {F : Md (List D)} {k : List D → Md β} {P : β → Env → (Nat → List Addr) → Hp → Prop} {R : List V → Hp → Prop} (er : ER c N0 ⟨e, a, σ, H⟩) (h : Post c W N0 ⟨e, a, σ, H⟩ (bnd F k e) P)
    (g : ∀ x e1 a1 H1 v, ER c N0 ⟨e1, a1, σ, H1⟩ → Stp c ⟨e, a, σ, H⟩ ⟨e1, a1, σ, H1⟩ → Rps c.K (NN N0 a1) H1 v x → Post c W N0 ⟨e1, a1, σ, H1⟩ (k x e1) P → R v H1) : tL c W F σ H R := by
  refine ⟨N0, e, a, er, ?_⟩
  unfold bnd at h
  revert h
  generalize F e = r
  cases r with
  | ok x e1 => exact fun h a1 H1 er1 st v rv => g x e1 a1 H1 v er1 st rv (Post.from h st rfl)
  | err cn fs e1 => exact fun h => h
  | stuck => exact fun h => h
/-- an answer that is there -/
theorem post_lft {α : Type} {o : Option α} {P : α → Env → (Nat → List Addr) → Hp → Prop} (h : Post c W N0 S (lft o S.e) P) : ∃ x, o = some x ∧ ∀ a' H', ER c N0 ⟨S.e, a', S.s, H'⟩ → Stp c S ⟨S.e, a', S.s, H'⟩ → P x S.e a' H' := by
  cases o with
  | none => exact h.elim
  | some x => exact ⟨x, rfl, h⟩
end

/-! ### operations by values -/
/-- what a two-place operation gives, new objects alone made -/
def Op2 (K : PySem.W.Frag) (f : D → D → Option D) (r : R2) : Prop := ∀ (N : Addr → Prop) (H : Hp) (x y : V) (dx dy dz : D) (Q : VK), (∀ q, N q → H q ≠ none) → Rp K N H x dx → Rp K N H y dy → f dx dy = some dz →
  (∀ v H', Same H H' → Rp K N H' v dz → Q v H') → r x y H Q
def Op1 (K : PySem.W.Frag) (f : D → Option D) (r : V → Hp → VK → Prop) : Prop := ∀ (N : Addr → Prop) (H : Hp) (x : V) (dx dz : D) (Q : VK), (∀ q, N q → H q ≠ none) → Rp K N H x dx → f dx = some dz →
  (∀ v H', Same H H' → Rp K N H' v dz → Q v H') → r x H Q
def OpN (K : PySem.W.Frag) (f : List D → Option D) (r : List V → Hp → VK → Prop) : Prop := ∀ (N : Addr → Prop) (H : Hp) (xs : List V) (ds : List D) (dz : D) (Q : VK), (∀ q, N q → H q ≠ none) → Rps K N H xs ds → f ds = some dz →
  (∀ v H', Same H H' → Rp K N H' v dz → Q v H') → r xs H Q
/-- a method of a value -/
def OpM (K : PySem.W.Frag) (f : D → List D → Option D) (r : V → List V → Hp → VK → Prop) : Prop := ∀ (N : Addr → Prop) (H : Hp) (x : V) (dx : D) (xs : List V) (ds : List D) (dz : D) (Q : VK), (∀ q, N q → H q ≠ none) → Rp K N H x dx → Rps K N H xs ds → f dx ds = some dz →
  (∀ v H', Same H H' → Rp K N H' v dz → Q v H') → r x xs H Q

section
variable {X : Cx} {c : Cfg} {W : WX} {e e1 e2 : Expr} {es : List Expr} {pos : Pos} {Fa Fb Fc : Md D} {FL : Md (List D)} {TA' TB' : Md Bool}
theorem sameS {c : Cfg} {N0 : Addr → Prop} {e1 : Env} {a1 : Nat → List Addr} {σ : L2.St} {H1 H' : Hp} {α : Type} {x : α} {P : α → Env → (Nat → List Addr) → Hp → Prop} (er : ER c N0 ⟨e1, a1, σ, H1⟩) (k : ∀ a' H', ER c N0 ⟨e1, a', σ, H'⟩ → Stp c ⟨e1, a1, σ, H1⟩ ⟨e1, a', σ, H'⟩ → P x e1 a' H') (s : Same H1 H') : P x e1 a1 H' :=
  k a1 H' (er.grow (S := ⟨e1, a1, σ, H1⟩) s) (Stp.grow (S := ⟨e1, a1, σ, H1⟩) s)

theorem de_op {op : Operator} {f : D → D → Option D} {r : R2} (ho : OpR X (binaryOp op) r) (hf : Op2 c.K f r) (ha : PE X e1 (tD c W Fa)) (hb : PE X e2 (tD c W Fb)) : PE X (.BinOp e1 op e2 pos) (tD c W (eOp2 f Fa Fb)) := by
  refine PE.imp (pe_op ho ha hb) fun σ H Q h => ?_
  obtain ⟨N0, e, a, er, h⟩ := h
  refine bindD er h fun x e1 a1 H1 v er1 st1 rx h => ?_
  refine bindD er1 h fun y e2 a2 H2 u er2 st2 ry h => ?_
  obtain ⟨z, hz, k⟩ := post_lft (S := ⟨e2, a2, σ, H2⟩) h
  exact hf _ H2 v u x y z Q er2.all_tr (rx.step st2) ry hz fun w H' s rw => sameS (P := okD c N0 Q) er2 k s w rw
theorem de_cmp {op : CmpOp} {f : D → D → Option D} {r : R2} (ho : OpR X (compareOp op) r) (hf : Op2 c.K f r) (ha : PE X e1 (tD c W Fa)) (hb : PE X e2 (tD c W Fb)) (hm : behindInMarks op e2 = false) : PE X (.Compare e1 [op] [e2] pos) (tD c W (eOp2 f Fa Fb)) := by
  refine PE.imp (pe_cmpR ho ha hb hm) fun σ H Q h => ?_
  obtain ⟨N0, e, a, er, h⟩ := h
  refine bindD er h fun x e1 a1 H1 v er1 st1 rx h => ?_
  refine bindD er1 h fun y e2 a2 H2 u er2 st2 ry h => ?_
  obtain ⟨z, hz, k⟩ := post_lft (S := ⟨e2, a2, σ, H2⟩) h
  exact hf _ H2 v u x y z Q er2.all_tr (rx.step st2) ry hz fun w H' s rw => sameS (P := okD c N0 Q) er2 k s w rw
/-- a comparison as a test -/
def tCm (f : D → D → Option D) (a b : Md D) : Md Bool := bnd a fun x => bnd b fun y => lft ((f x y).bind asBool)
theorem dt_cmp {op : CmpOp} {f : D → D → Option D} {r : R2} (ho : OpR X (compareOp op) r) (hf : Op2 c.K f r) (ha : PE X e1 (tD c W Fa)) (hb : PE X e2 (tD c W Fb)) (hm : behindInMarks op e2 = false) : PT X (.Compare e1 [op] [e2] pos) (tT c W (tCm f Fa Fb)) := by
  refine PT.imp (pt_cmpR ho ha hb hm) fun σ H Q h => ?_
  obtain ⟨N0, e, a, er, h⟩ := h
  refine bindD er h fun x e1 a1 H1 v er1 st1 rx h => ?_
  refine bindD er1 h fun y e2 a2 H2 u er2 st2 ry h => ?_
  obtain ⟨z, hz, k⟩ := post_lft (S := ⟨e2, a2, σ, H2⟩) h
  obtain ⟨d, hd, hz⟩ := Option.bind_eq_some_iff.mp hz
  refine hf _ H2 v u x y d _ er2.all_tr (rx.step st2) ry hd fun w H' s rw => ?_
  cases d with
  | bool b =>
    cases hz
    cases rw
    exact ⟨_, rfl, sameS (P := okT Q) er2 k s⟩
  | _ => cases hz
theorem de_un {op : UnaryOp} {f : D → Option D} {r : V → Hp → VK → Prop} (ho : UnR X (unaryOp op) r) (hf : Op1 c.K f r) (ha : PE X e1 (tD c W Fa)) : PE X (.UnaryOp op e1 pos) (tD c W (eOp1 f Fa)) := by
  refine PE.imp (pe_un ho ha) fun σ H Q h => ?_
  obtain ⟨N0, e, a, er, h⟩ := h
  refine bindD er h fun x e1 a1 H1 v er1 st1 rx h => ?_
  obtain ⟨z, hz, k⟩ := post_lft (S := ⟨e1, a1, σ, H1⟩) h
  exact hf _ H1 v x z Q er1.all_tr rx hz fun w H' s rw => sameS (P := okD c N0 Q) er1 k s w rw
theorem de_ix {f : D → D → Option D} {r : R2} (ho : IxR X r) (hf : Op2 c.K f r) (ha : PE X e1 (tD c W Fa)) (hb : PE X e2 (tD c W Fb)) (hs : PlainIx e2) : PE X (.Subscript e1 e2 pos) (tD c W (eOp2 f Fa Fb)) := by
  refine PE.imp (pe_ix ho ha hb hs) fun σ H Q h => ?_
  obtain ⟨N0, e, a, er, h⟩ := h
  refine bindD er h fun x e1 a1 H1 v er1 st1 rx h => ?_
  refine bindD er1 h fun y e2 a2 H2 u er2 st2 ry h => ?_
  obtain ⟨z, hz, k⟩ := post_lft (S := ⟨e2, a2, σ, H2⟩) h
  exact hf _ H2 v u x y z Q er2.all_tr (rx.step st2) ry hz fun w H' s rw => sameS (P := okD c N0 Q) er2 k s w rw

/-! names, constants -/
theorem de_v (i : Nat) {x : Str} (hN : X.N[i]? = some x) (hv : Vis X.env.scope x) (hd : (x == ("__debug__" : Str)) = false := by decide +kernel) (hcd : (x == ("__classdict__" : Str)) = false := by decide +kernel) : PE X (.Name x pos) (tD c W (eV i)) := by
  refine PE.imp (pe_var (i := i) hN hv hd hcd) fun σ H Q h => ?_
  obtain ⟨N0, e, a, er, h⟩ := h
  unfold eV at h
  split at h
  · rename_i x hx
    obtain ⟨v, e1, r⟩ := er.get_d hx
    exact ⟨v, e1, h a H er (Stp.refl _) v r⟩
  · exact h.elim
theorem de_kk {e : Expr} {v : V} {x : D} (hp : PE X e (tC v)) (hr : ∀ (N : Addr → Prop) (H : Hp), Rp c.K N H v x) : PE X e (tD c W (eK x)) := by
  refine PE.imp hp fun σ H Q h => ?_
  obtain ⟨N0, e, a, er, h⟩ := h
  exact h a H er (Stp.refl _) v (hr _ _)
theorem de_int {i : Int} {j : Nat} : PE X (.Constant (.int i) j pos) (tD c W (eK (.int i))) := de_kk pe_int fun _ _ => .int i
theorem de_bl {b : Bool} {j : Nat} : PE X (.Constant (.bool b) j pos) (tD c W (eK (.bool b))) := de_kk pe_bl fun _ _ => .bl b
theorem de_non {j : Nat} : PE X (.Constant .none j pos) (tD c W (eK .none)) := de_kk pe_non fun _ _ => .non
theorem de_str {x : Str} {j : Nat} : PE X (.Constant (.str x) j pos) (tD c W (eK (.str x))) := de_kk pe_str fun _ _ => .str x
/-- a constant of the module -/
theorem de_glob {x : Str} {v : V} {u : Value} {dx : D} (hg : Gl X x) (hm : X.mg x = some u) (r : RelV v u) (hr : ∀ (N : Addr → Prop) (H : Hp), Rp c.K N H v dx) (hd : (x == ("__debug__" : Str)) = false := by decide +kernel) : PE X (.Name x pos) (tD c W (eK dx)) :=
  de_kk (pe_glob hg hm r hd) hr

/-! rows of expressions, displays, calls of built-ins -/
theorem da_nil : PA X [] (tL c W aNil) := by
  refine PA.imp pa_nil fun σ H Q h => ?_
  obtain ⟨N0, e, a, er, h⟩ := h
  exact h a H er (Stp.refl _) [] .nil
theorem da_cons (ha : PE X e1 (tD c W Fa)) (hl : PA X es (tL c W FL)) (hs : starEach (e1 :: es) X.env = (false, eval e1 X.env) :: starEach es X.env := by rfl) : PA X (e1 :: es) (tL c W (aCons Fa FL)) := by
  refine PA.imp (pa_cons ha hl hs) fun σ H Q h => ?_
  obtain ⟨N0, e, a, er, h⟩ := h
  refine bindD er h fun x e1 a1 H1 v er1 st1 rx h => ?_
  refine bindL er1 h fun xs e2 a2 H2 vs er2 st2 rxs h => ?_
  exact h a2 H2 er2 (Stp.refl _) (v :: vs) (.cons (rx.step st2) rxs)
theorem de_bi {x : Str} {p : Pos} {id : String} {f : List D → Option D} {r : List V → Hp → VK → Prop} (hc : CallR X (.builtin id) r) (hf : OpN c.K f r) (hg : Gl X x) (hm : X.mg x = none) (hv : bootBuiltins x = some (.builtin id)) (ha : PA X (e1 :: es) (tL c W FL))
    (hn : x ≠ "__name__" := by decide +kernel) (hdb : (x == ("__debug__" : Str)) = false := by decide +kernel)
    (he : starEach (e1 :: es) X.env = (false, eval e1 X.env) :: starEach es X.env := by rfl) (hpl : (backTo pos (starEach es X.env)).any (·.1) = false := by rfl) : PE X (.Call (.Name x p) (e1 :: es) [] pos) (tD c W (eL f FL)) := by
  refine PE.imp (pe_callB hc hg hm hv ha hn hdb he hpl) fun σ H Q h => ?_
  obtain ⟨N0, e, a, er, h⟩ := h
  refine bindL er h fun xs e1 a1 H1 vs er1 st1 rx h => ?_
  obtain ⟨z, hz, k⟩ := post_lft (S := ⟨e1, a1, σ, H1⟩) h
  exact hf _ H1 vs xs z Q er1.all_tr rx hz fun w H' s rw => sameS (P := okD c N0 Q) er1 k s w rw
theorem de_ty {x : Str} {p : Pos} {T : String} {f : List D → Option D} {r : List V → Hp → VK → Prop} (hc : CallR X (.type T) r) (hf : OpN c.K f r) (hg : Gl X x) (hm : X.mg x = none) (hv : bootBuiltins x = some (.type T)) (ha : PA X (e1 :: es) (tL c W FL))
    (hn : x ≠ "__name__" := by decide +kernel) (hdb : (x == ("__debug__" : Str)) = false := by decide +kernel)
    (he : starEach (e1 :: es) X.env = (false, eval e1 X.env) :: starEach es X.env := by rfl) (hpl : (backTo pos (starEach es X.env)).any (·.1) = false := by rfl) : PE X (.Call (.Name x p) (e1 :: es) [] pos) (tD c W (eL f FL)) := by
  refine PE.imp (pe_callTy hc hg hm hv ha hn hdb he hpl) fun σ H Q h => ?_
  obtain ⟨N0, e, a, er, h⟩ := h
  refine bindL er h fun xs e1 a1 H1 vs er1 st1 rx h => ?_
  obtain ⟨z, hz, k⟩ := post_lft (S := ⟨e1, a1, σ, H1⟩) h
  exact hf _ H1 vs xs z Q er1.all_tr rx hz fun w H' s rw => sameS (P := okD c N0 Q) er1 k s w rw
def dTup (xs : List D) : Option D := if xs.length ≤ sizeLine then some (.tuple xs) else none
def dLst (xs : List D) : Option D := if xs.length ≤ sizeLine then some (.list xs) else none
theorem de_tup {j} (ha : PA X es (tL c W FL)) : PE X (.Tuple es j pos) (tD c W (eL dTup FL)) := by
  refine PE.imp (pe_tup ha) fun σ H Q h => ?_
  obtain ⟨N0, e, a, er, h⟩ := h
  refine bindL er h fun xs e1 a1 H1 vs er1 st1 rx h => ?_
  obtain ⟨z, hz, k⟩ := post_lft (S := ⟨e1, a1, σ, H1⟩) h
  unfold dTup at hz
  split at hz
  · rename_i hl
    cases hz
    have hl' : vs.length ≤ sizeLine := by rw [rx.length]; exact hl
    exact ⟨hl', fun p hp => sameS (P := okD c N0 Q) er1 k (same_upd hp) _ (rx.newT hp hl' er1.all_tr)⟩
  · cases hz
theorem de_lst (ha : PA X es (tL c W FL)) : PE X (.List es pos) (tD c W (eL dLst FL)) := by
  refine PE.imp (pe_lst ha) fun σ H Q h => ?_
  obtain ⟨N0, e, a, er, h⟩ := h
  refine bindL er h fun xs e1 a1 H1 vs er1 st1 rx h => ?_
  obtain ⟨z, hz, k⟩ := post_lft (S := ⟨e1, a1, σ, H1⟩) h
  unfold dLst at hz
  split at hz
  · rename_i hl
    cases hz
    have hl' : vs.length ≤ sizeLine := by rw [rx.length]; exact hl
    exact ⟨hl', fun p hp => sameS (P := okD c N0 Q) er1 k (same_upd hp) _ (rx.newL hp hl' er1.all_tr)⟩
  · cases hz

/-! tests -/
theorem dt_and1 (ha : PT X e1 (tT c W TA')) : PW X (.BoolOp .And [e1] pos) (tT c W TA') := pw_and1 ha
theorem dt_and (ha : PT X e1 (tT c W TA')) (hb : PW X (.BoolOp .And (e2 :: es) pos) (tT c W TB')) : PW X (.BoolOp .And (e1 :: e2 :: es) pos) (tT c W (tAn TA' TB')) := by
  have h0 := pw_and ha hb
  refine ⟨fun wh pins s σ H Q I h => h0.run wh pins s σ H Q I ?_⟩
  obtain ⟨N0, e, a, er, h⟩ := h
  refine bindT er h fun x e1 a1 H1 er1 st1 h => ?_
  cases x with
  | true => exact iteT ⟨N0, e1, a1, er1, h⟩
  | false => exact iteF (h a1 H1 er1 (Stp.refl _))
theorem dt_or (ha : PT X e1 (tT c W TA')) (hb : PW X (.BoolOp .Or (e2 :: es) pos) (tT c W TB')) : PW X (.BoolOp .Or (e1 :: e2 :: es) pos) (tT c W (tOr TA' TB')) := by
  have h0 := pw_or ha hb
  refine ⟨fun wh pins s σ H Q I h => h0.run wh pins s σ H Q I ?_⟩
  obtain ⟨N0, e, a, er, h⟩ := h
  refine bindT er h fun x e1 a1 H1 er1 st1 h => ?_
  cases x with
  | true => exact iteT (h a1 H1 er1 (Stp.refl _))
  | false => exact iteF ⟨N0, e1, a1, er1, h⟩
theorem dt_or1 (ha : PT X e1 (tT c W TA')) : PW X (.BoolOp .Or [e1] pos) (tT c W TA') := pw_or1 ha
theorem dt_not (ha : PT X e1 (tT c W TA')) : PT X (.UnaryOp .Not e1 pos) (tT c W (tNt TA')) := by
  refine PT.imp (pt_not ha) fun σ H Q h => ?_
  obtain ⟨N0, e, a, er, h⟩ := h
  refine bindT er h fun x e1 a1 H1 er1 st1 h => ?_
  exact h a1 H1 er1 (Stp.refl _)
def truthS (x : D) : Option Bool := match x with
  | .str z => if z.length ≤ sizeLine then some ((z.length : Int) != 0) else none
  | x => truth x
theorem dt_tr (ha : PE X e1 (tD c W Fa)) (hK : c.K = X.K) (he : ∀ whole, isTrue e1 X.env whole = (do let v ← whole; standAt e1.pos; holding [v] (truthy v)) := by intro _; rfl) : PT X e1 (tT c W (tB Fa truthS)) := by
  refine PT.imp (pt_truth ha he) fun σ H Q h => ?_
  obtain ⟨N0, e, a, er, h⟩ := h
  refine bindD er h fun x e1 a1 H1 v er1 st1 rx h => ?_
  obtain ⟨z, hz, k⟩ := post_lft (S := ⟨e1, a1, σ, H1⟩) h
  have q := k a1 H1 er1 (Stp.refl _)
  rw [← hK]
  cases x with
  | none => cases rx; cases hz; exact ⟨_, rfl, q⟩
  | bool b => cases rx; cases hz; exact ⟨_, rfl, q⟩
  | int i => cases rx; cases hz; exact ⟨_, rfl, q⟩
  | str y =>
    cases rx
    have hz' : (if y.length ≤ sizeLine then some ((y.length : Int) != 0) else none) = some z := hz
    split at hz'
    · rename_i hl
      cases hz'
      exact ⟨_, ⟨hl, rfl⟩, q⟩
    · cases hz'
  | list ds =>
    cases hz
    obtain ⟨p, xs, rfl, hs, hl, rs⟩ := rx.list
    refine ⟨_, .inl ⟨xs, hs, ?_⟩, q⟩
    have e := rs.length
    cases xs <;> cases ds <;> first | rfl | (simp at e)
  | tuple ds =>
    cases hz
    obtain ⟨p, xs, rfl, hs, hl, rs⟩ := rx.tuple
    refine ⟨_, .inr (.inl ⟨xs, hs, ?_⟩), q⟩
    have e := rs.length
    cases xs <;> cases ds <;> first | rfl | (simp at e)
  | dict _ => cases hz

/-! and, or, not, if as values -/
theorem de_one {op : BoolOp} (ha : PE X e1 (tD c W Fa)) : PE X (.BoolOp op [e1] pos) (tD c W Fa) := pe_one ha
theorem de_and (ha : PE X e1 (tD c W Fa)) (hb : PE X (.BoolOp .And (e2 :: es) pos) (tD c W Fb)) : PE X (.BoolOp .And (e1 :: e2 :: es) pos) (tD c W (eAn Fa Fb)) := by
  refine PE.imp (pe_and ha hb) fun σ H Q h => ?_
  obtain ⟨N0, e, a, er, h⟩ := h
  refine bindD er h fun x e1 a1 H1 v er1 st1 rx h => ?_
  cases x with
  | bool b =>
    cases rx
    refine ⟨b, rfl, ?_⟩
    cases b with
    | true => exact iteT ⟨N0, e1, a1, er1, h⟩
    | false => exact iteF (h a1 H1 er1 (Stp.refl _) _ (.bl _))
  | _ => exact h.elim
theorem de_or (ha : PE X e1 (tD c W Fa)) (hb : PE X (.BoolOp .Or (e2 :: es) pos) (tD c W Fb)) : PE X (.BoolOp .Or (e1 :: e2 :: es) pos) (tD c W (eOr Fa Fb)) := by
  refine PE.imp (pe_or ha hb) fun σ H Q h => ?_
  obtain ⟨N0, e, a, er, h⟩ := h
  refine bindD er h fun x e1 a1 H1 v er1 st1 rx h => ?_
  cases x with
  | bool b =>
    cases rx
    refine ⟨b, rfl, ?_⟩
    cases b with
    | true => exact iteT (h a1 H1 er1 (Stp.refl _) _ (.bl _))
    | false => exact iteF ⟨N0, e1, a1, er1, h⟩
  | _ => exact h.elim
theorem de_not (ha : PE X e1 (tD c W Fa)) : PE X (.UnaryOp .Not e1 pos) (tD c W (eNt Fa)) := by
  refine PE.imp (pe_not ha) fun σ H Q h => ?_
  obtain ⟨N0, e, a, er, h⟩ := h
  refine bindD er h fun x e1 a1 H1 v er1 st1 rx h => ?_
  cases x with
  | bool b =>
    cases rx
    exact ⟨b, rfl, h a1 H1 er1 (Stp.refl _) _ (.bl _)⟩
  | _ => exact h.elim
theorem de_if {t : Expr} (ht : PT X t (tT c W TA')) (ha : PE X e1 (tD c W Fa)) (hb : PE X e2 (tD c W Fb)) : PE X (.IfExp t e1 e2 pos) (tD c W (eIf TA' Fa Fb)) := by
  refine PE.imp (pe_ifExp ht ha hb) fun σ H Q h => ?_
  obtain ⟨N0, e, a, er, h⟩ := h
  refine bindT er h fun x e1 a1 H1 er1 st1 h => ?_
  cases x with
  | true => exact iteT ⟨N0, e1, a1, er1, h⟩
  | false => exact iteF ⟨N0, e1, a1, er1, h⟩
end
end VL

set_option Elab.async false
set_option autoImplicit false
set_option linter.all false
set_option maxRecDepth 100000
set_option maxHeartbeats 4000000
/-! VL3: statements, targets, loops, comprehensions. -/
namespace VL
open PySem PySem.Spec PyProof.Rows L2

/-! ### semantics -/
def sNx : Sm := fun e => .nx e
def sSeq (g h : Sm) : Sm := fun e => match g e with
  | .nx e1 => h e1
  | r => r
/-- a value, then what is made of it -/
def sB {α : Type} (m : Md α) (k : α → Sm) : Sm := fun e => match m e with
  | .ok x e1 => k x e1
  | .err c fs e1 => .err c fs e1
  | .stuck => .stuck
def sEx (m : Md SV) : Sm := sB m fun _ => sNx
def sRt (m : Md SV) : Sm := sB m fun v e => .rt v e
def sRtN : Sm := fun e => .rt (.d .none) e
def sIf (t : Md Bool) (g h : Sm) : Sm := sB t fun b => if b = true then g else h
def sBk : Sm := fun e => .bk e
def sCt : Sm := fun e => .ct e
def oD (m : Md D) : Md SV := bnd m fun x e => .ok (.d x) e
abbrev Tg := D → Env → Option Env
def sSt (g : Tg) (m : Md D) : Sm := sB m fun x e => match g x e with
  | some e' => .nx e'
  | none => .stuck
def sStO (j : Nat) (m : Md SV) : Sm := sB m fun v e => if j < e.length then .nx (e.set j v) else .stuck
def gN (j : Nat) : Tg := fun x e => some (e.set j (.d x))
abbrev Tgs := List D → Env → Option Env
def gsN : Tgs := fun xs e => match xs with
  | [] => some e
  | _ => none
def gsC (g : Tg) (gs : Tgs) : Tgs := fun xs e => match xs with
  | x :: r => (g x e).bind fun e1 => gs r e1
  | [] => none
def gT (n : Nat) (gs : Tgs) : Tg := fun x e => match x with
  | .tuple ds => if ds.length = n then gs ds e else none
  | _ => none
/-- a for loop over what is there -/
def forR (g : Tg) (G : Sm) : List D → Sm
  | [], e => .nx e
  | x :: xs, e => match g x e with
    | none => .stuck
    | some e1 => match G e1 with
      | .nx e2 => forR g G xs e2
      | .ct e2 => forR g G xs e2
      | .bk e2 => .nx e2
      | .rt v e2 => .rt v e2
      | .err c fs e2 => .err c fs e2
      | .stuck => .stuck
def sFor (it : Md (List D)) (g : Tg) (G : Sm) : Sm := sB it fun xs => forR g G xs
def whR (t : Md Bool) (G : Sm) : Nat → Sm
  | 0, _ => .stuck
  | n + 1, e => match t e with
    | .ok true e1 => (match G e1 with
      | .nx e2 => whR t G n e2
      | .ct e2 => whR t G n e2
      | .bk e2 => .nx e2
      | .rt v e2 => .rt v e2
      | .err c fs e2 => .err c fs e2
      | .stuck => .stuck)
    | .ok false e1 => .nx e1
    | .err c fs e1 => .err c fs e1
    | .stuck => .stuck
def sWh (n : Nat) (t : Md Bool) (G : Sm) : Sm := fun e => whR t G n e

/-! ### readings -/
def PostO (c : Cfg) (W : WX) (N0 : Addr → Prop) (S : Sx) (r : Res SV) (Q : VK) : Prop := match r with
  | .ok sv e' => ∀ a' H' v, ER c N0 ⟨e' ++ [sv], a', S.s ++ [some v], H'⟩ → Stp c S ⟨e' ++ [sv], a', S.s ++ [some v], H'⟩ → Q v H'
  | .err cn fs e' => PErrX c W N0 S cn fs e'
  | .stuck => False
def PostS (c : Cfg) (W : WX) (N0 : Addr → Prop) (S : Sx) (r : SR) (D : Ends) : Prop := match r with
  | .nx e' => ∀ a' s' H', ER c N0 ⟨e', a', s', H'⟩ → Stp c S ⟨e', a', s', H'⟩ → D.nx s' H'
  | .bk e' => ∀ a' s' H', ER c N0 ⟨e', a', s', H'⟩ → Stp c S ⟨e', a', s', H'⟩ → D.bk s' H'
  | .ct e' => ∀ a' s' H', ER c N0 ⟨e', a', s', H'⟩ → Stp c S ⟨e', a', s', H'⟩ → D.ct s' H'
  | .rt sv e' => ∀ a' s' H' v, ER c N0 ⟨e' ++ [sv], a', s' ++ [some v], H'⟩ → Stp c S ⟨e' ++ [sv], a', s' ++ [some v], H'⟩ → S.e.length ≤ e'.length → D.rt v H'
  | .err cn fs e' => PErr c W N0 S cn fs e'
  | .stuck => False
theorem PostO.from {c : Cfg} {W : WX} {N0 : Addr → Prop} {S S' : Sx} {r : Res SV} {Q : VK} (h : PostO c W N0 S r Q) (p : Stp c S S') (hs : S'.s = S.s) : PostO c W N0 S' r Q := by
  cases r with
  | ok x e' =>
    intro a' H' v er st
    rw [hs] at er st
    exact h a' H' v er (p.trans st)
  | err cn fs e' => exact PErrX.from (show PErrX c W N0 S cn fs e' from h) p hs
  | stuck => exact h
theorem PostS.from {c : Cfg} {W : WX} {N0 : Addr → Prop} {S S' : Sx} {r : SR} {D : Ends} (h : PostS c W N0 S r D) (p : Stp c S S') : PostS c W N0 S' r D := by
  cases r with
  | nx e' => exact fun a' s' H' er st => h a' s' H' er (p.trans st)
  | bk e' => exact fun a' s' H' er st => h a' s' H' er (p.trans st)
  | ct e' => exact fun a' s' H' er st => h a' s' H' er (p.trans st)
  | rt sv e' => exact fun a' s' H' v er st hl => h a' s' H' v er (p.trans st) (Nat.le_trans p.ln hl)
  | err cn fs e' => exact PErr.from (show PErr c W N0 S cn fs e' from h) p
  | stuck => exact h
/-- another end behind what goes on -/
theorem PostS.nx_ {c : Cfg} {W : WX} {N0 : Addr → Prop} {S : Sx} {r : SR} {D D' : Ends} (h : PostS c W N0 S r D) (h1 : ∀ σ H, D.nx σ H → D'.nx σ H) (h2 : ∀ σ H, D.bk σ H → D'.bk σ H) (h3 : ∀ σ H, D.ct σ H → D'.ct σ H) (h4 : ∀ v H, D.rt v H → D'.rt v H) : PostS c W N0 S r D' := by
  cases r with
  | nx e' => exact fun a' s' H' er st => h1 _ _ (h a' s' H' er st)
  | bk e' => exact fun a' s' H' er st => h2 _ _ (h a' s' H' er st)
  | ct e' => exact fun a' s' H' er st => h3 _ _ (h a' s' H' er st)
  | rt sv e' => exact fun a' s' H' v er st hl => h4 _ _ (h a' s' H' v er st hl)
  | err cn fs e' => exact h
  | stuck => exact h
def tO (c : Cfg) (W : WX) (F : Md SV) : TE := fun σ H Q => ∃ N0 e a, ER c N0 ⟨e, a, σ, H⟩ ∧ PostO c W N0 ⟨e, a, σ, H⟩ (F e) Q
def tS (c : Cfg) (W : WX) (G : Sm) : TS := fun D σ H => ∃ N0 e a, ER c N0 ⟨e, a, σ, H⟩ ∧ PostS c W N0 ⟨e, a, σ, H⟩ (G e) D
/-- js: the slots that are stored -/
def tG (c : Cfg) (js : List Nat) (g : Tg) : TG := fun v σ H Q => ∃ N0 e a x, ER c N0 ⟨e, a, σ, H⟩ ∧ Rp c.K (NN N0 a) H v x ∧ ∃ e', g x e = some e' ∧ ∀ a' σ', ER c N0 ⟨e', a', σ', H⟩ → Stp c ⟨e, a, σ, H⟩ ⟨e', a', σ', H⟩ → σ'.length = σ.length → (∀ i, i ∉ js → σ'[i]? = σ[i]?) → Q σ' H
def tGs (c : Cfg) (js : List Nat) (g : Tgs) : TGs := fun vs σ H Q => ∃ N0 e a xs, ER c N0 ⟨e, a, σ, H⟩ ∧ Rps c.K (NN N0 a) H vs xs ∧ ∃ e', g xs e = some e' ∧ ∀ a' σ', ER c N0 ⟨e', a', σ', H⟩ → Stp c ⟨e, a, σ, H⟩ ⟨e', a', σ', H⟩ → σ'.length = σ.length → (∀ i, i ∉ js → σ'[i]? = σ[i]?) → Q σ' H

section
variable {c : Cfg} {W : WX} {N0 : Addr → Prop} {S : Sx} {e : Env} {a : Nat → List Addr} {σ : L2.St} {H : Hp} {β : Type}
theorem sbindD {F : Md D} {k : D → Sm} {D' : Ends} {R : VK} (er : ER c N0 ⟨e, a, σ, H⟩) (h : PostS c W N0 ⟨e, a, σ, H⟩ (sB F k e) D')
    (g : ∀ x e1 a1 H1 v, ER c N0 ⟨e1, a1, σ, H1⟩ → Stp c ⟨e, a, σ, H⟩ ⟨e1, a1, σ, H1⟩ → Rp c.K (NN N0 a1) H1 v x → PostS c W N0 ⟨e1, a1, σ, H1⟩ (k x e1) D' → R v H1) : tD c W F σ H R := by
  refine ⟨N0, e, a, er, ?_⟩
  unfold sB at h
  revert h
  generalize F e = r
  cases r with
  | ok x e1 => exact fun h a1 H1 er1 st v rv => g x e1 a1 H1 v er1 st rv (PostS.from h st)
  | err cn fs e1 => exact fun h => PErr.x h
  | stuck => exact fun h => h
theorem sbindT {F : Md Bool} {k : Bool → Sm} {D' : Ends} {R : Bool → Hp → Prop} (er : ER c N0 ⟨e, a, σ, H⟩) (h : PostS c W N0 ⟨e, a, σ, H⟩ (sB F k e) D')
    (g : ∀ x e1 a1 H1, ER c N0 ⟨e1, a1, σ, H1⟩ → Stp c ⟨e, a, σ, H⟩ ⟨e1, a1, σ, H1⟩ → PostS c W N0 ⟨e1, a1, σ, H1⟩ (k x e1) D' → R x H1) : tT c W F σ H R := by
  refine ⟨N0, e, a, er, ?_⟩
  unfold sB at h
  revert h
  generalize F e = r
  cases r with
  | ok x e1 => exact fun h a1 H1 er1 st => g x e1 a1 H1 er1 st (PostS.from h st)
  | err cn fs e1 => exact fun h => PErr.x h
  | stuck => exact fun h => h
theorem sbindO {F : Md SV} {k : SV → Sm} {D' : Ends} {R : VK} (er : ER c N0 ⟨e, a, σ, H⟩) (h : PostS c W N0 ⟨e, a, σ, H⟩ (sB F k e) D')
    (g : ∀ x e1 a1 H1 v, ER c N0 ⟨e1 ++ [x], a1, σ ++ [some v], H1⟩ → Stp c ⟨e, a, σ, H⟩ ⟨e1 ++ [x], a1, σ ++ [some v], H1⟩ → e.length = e1.length → PostS c W N0 ⟨e, a, σ, H⟩ (k x e1) D' → R v H1) : tO c W F σ H R := by
  refine ⟨N0, e, a, er, ?_⟩
  unfold sB at h
  revert h
  generalize F e = r
  cases r with
  | ok x e1 => exact fun h a1 H1 v er1 st => g x e1 a1 H1 v er1 st (by
      have q1 : (σ ++ [some v]).length = (e1 ++ [x]).length := er1.len
      have q2 : σ.length = e.length := er.len
      simp at q1; omega) h
  | err cn fs e1 => exact fun h => PErr.x h
  | stuck => exact fun h => h
end

section
variable {X : Cx} {c : Cfg} {W : WX} {e : Expr} {es : List Expr} {st : Stmt} {sts : List Stmt} {pos : Pos} {F : Md D} {FO : Md SV} {T : Md Bool} {G G' : Sm}
theorem do_d (h : PE X e (tD c W F)) : PE X e (tO c W (oD F)) := by
  refine PE.imp h fun σ H Q h => ?_
  obtain ⟨N0, e, a, er, h⟩ := h
  refine ⟨N0, e, a, er, ?_⟩
  unfold oD bnd at h
  revert h
  generalize F e = r
  cases r with
  | ok x e1 => exact fun h a1 H1 er1 st v rv => h a1 H1 v (er1.push_d rv).1 ((er1.push_d rv).2 _ st)
  | err cn fs e1 => exact fun h => h
  | stuck => exact fun h => h
/-! blocks -/
theorem ds_nil : PSs X [] (tS c W sNx) := by
  refine PSs.imp pss_nil fun D σ H h => ?_
  obtain ⟨N0, e, a, er, h⟩ := h
  exact h a σ H er (Stp.refl _)
theorem ds_cons (h1 : PS X st (tS c W G)) (h2 : PSs X sts (tS c W G')) : PSs X (st :: sts) (tS c W (sSeq G G')) := by
  refine PSs.imp (pss_cons h1 h2) fun D σ H h => ?_
  obtain ⟨N0, e, a, er, h⟩ := h
  refine ⟨N0, e, a, er, ?_⟩
  unfold sSeq at h
  revert h
  generalize G e = r
  cases r with
  | nx e1 => exact fun h a1 s1 H1 er1 st => ⟨N0, e1, a1, er1, PostS.from h st⟩
  | bk e1 => exact fun h => h
  | ct e1 => exact fun h => h
  | rt v e1 => exact fun h => h
  | err cn fs e1 => exact fun h => h
  | stuck => exact fun h => h
theorem ds_one (h1 : PS X st (tS c W G)) : PSs X [st] (tS c W G) := pss_one h1
theorem ds_pass : PS X (.Pass pos) (tS c W sNx) := by
  refine PS.imp ps_pass fun D σ H h => ?_
  obtain ⟨N0, e, a, er, h⟩ := h
  exact h a σ H er (Stp.refl _)
theorem ds_break : PS X (.Break pos) (tS c W sBk) := by
  refine PS.imp ps_break fun D σ H h => ?_
  obtain ⟨N0, e, a, er, h⟩ := h
  exact h a σ H er (Stp.refl _)
theorem ds_continue : PS X (.Continue pos) (tS c W sCt) := by
  refine PS.imp ps_continue fun D σ H h => ?_
  obtain ⟨N0, e, a, er, h⟩ := h
  exact h a σ H er (Stp.refl _)
theorem ds_expr (he : PE X e (tO c W FO)) (hs : swapsWith e none pos.line X.env = pure false := by rfl) : PS X (.Expr e pos) (tS c W (sEx FO)) := by
  refine PS.imp (ps_expr he hs) fun D σ H h => ?_
  obtain ⟨N0, e, a, er, h⟩ := h
  refine sbindO er h fun x e1 a1 H1 v er1 st hl h => ?_
  obtain ⟨d1, d2⟩ := er1.drop
  exact h _ _ _ d1 (d2 _ (Nat.le_of_eq hl) st)
theorem ds_ret (he : PE X e (tO c W FO)) : PS X (.Return (some e) pos) (tS c W (sRt FO)) := by
  refine PS.imp (ps_ret he) fun D σ H h => ?_
  obtain ⟨N0, e, a, er, h⟩ := h
  exact sbindO er h fun x e1 a1 H1 v er1 st hl h => h a1 σ H1 v er1 st (Nat.le_of_eq hl)
theorem ds_retN : PS X (.Return none pos) (tS c W sRtN) := by
  refine PS.imp ps_retN fun D σ H h => ?_
  obtain ⟨N0, e, a, er, h⟩ := h
  have k := er.push_d (v := .non) (x := .none) .non
  exact h a σ H .non k.1 (k.2 _ (Stp.refl _)) (Nat.le_refl _)
theorem ds_if {t : Expr} {b1 b2 : List Stmt} (ht : PT X t (tT c W T)) (h1 : PSs X b1 (tS c W G)) (h2 : PSs X b2 (tS c W G')) : PS X (.If t b1 b2 pos) (tS c W (sIf T G G')) := by
  refine PS.imp (ps_if ht h1 h2) fun D σ H h => ?_
  obtain ⟨N0, e, a, er, h⟩ := h
  refine sbindT er h fun x e1 a1 H1 er1 st h => ?_
  cases x with
  | true => exact iteT ⟨N0, e1, a1, er1, h⟩
  | false => exact iteF ⟨N0, e1, a1, er1, h⟩
/-! targets -/
theorem dg_name (j : Nat) {x : Str} (hN : X.N.Nodup) (hi : X.N[j]? = some x) (hx : Loc X.env.scope x) (hf : X.fn x = true ∨ X.env.scope.names.lookup x = some .local := by first | exact .inl rfl | exact .inr rfl | assumption) : PG X (.Name x pos) (tG c [j] (gN j)) := by
  refine ⟨fun pins s σ H v u Q I r h => (pg_name (i := j) hN hi hx hf).run pins s σ H v u Q I r ?_⟩
  obtain ⟨N0, e, a, x, er, rx, e', he, k⟩ := h
  cases he
  have q := er.set_d (j := j) rx
  exact k _ _ q.1 q.2 (by simp) fun i hi => List.getElem?_set_ne (fun z => hi (by rw [z]; exact List.mem_cons_self))
theorem dgs_nil : PGs X [] (tGs c [] gsN) := by
  refine ⟨fun pins s σ H vs us Q I r h => pgs_nil.run pins s σ H vs us Q I r ?_⟩
  obtain ⟨N0, e, a, xs, er, rx, e', he, k⟩ := h
  cases rx with
  | nil =>
    cases he
    exact ⟨rfl, k a σ er (Stp.refl _) rfl fun _ _ => rfl⟩
  | cons _ _ => cases he
theorem dgs_cons {g : Tg} {gs : Tgs} {j1 j2 : List Nat} (h1 : PG X e (tG c j1 g)) (h2 : PGs X es (tGs c j2 gs)) (hs : (assignEach (e :: es) X.env).map (·.2) = assign e X.env :: (assignEach es X.env).map (·.2) := by rfl) : PGs X (e :: es) (tGs c (j1 ++ j2) (gsC g gs)) := by
  refine ⟨fun pins s σ H vs us Q I r h => (pgs_cons h1 h2 hs).run pins s σ H vs us Q I r ?_⟩
  obtain ⟨N0, e, a, xs, er, rx, e', he, k⟩ := h
  cases rx with
  | nil => cases he
  | cons rv rr =>
    obtain ⟨e1, he1, he2⟩ := Option.bind_eq_some_iff.mp (show (g _ e).bind (fun e1 => gs _ e1) = some e' from he)
    refine ⟨_, _, rfl, N0, e, a, _, er, rv, e1, he1, fun a1 σ1 er1 st1 l1 o1 => ?_⟩
    exact ⟨N0, e1, a1, _, er1, rr.step st1, e', he2, fun a2 σ2 er2 st2 l2 o2 => k a2 σ2 er2 (st1.trans st2) (l2.trans l1) fun i hi => (o2 i fun m => hi (List.mem_append_right _ m)).trans (o1 i fun m => hi (List.mem_append_left _ m))⟩
theorem dg_tup {k n : Nat} {gs : Tgs} {js : List Nat} (hc : X.calm = true) (hK : c.K = X.K) (h : PGs X es (tGs c js gs)) (hn : (assignEach es X.env).length = n := by rfl) (hst : (assignEach es X.env).findIdx? (·.1) = none := by rfl) : PG X (.Tuple es k pos) (tG c js (gT n gs)) := by
  refine ⟨fun pins s σ H v u Q I r h' => (pg_tup hc h hn hst).run pins s σ H v u Q I r ?_⟩
  obtain ⟨N0, e, a, x, er, rx, e', he, k⟩ := h'
  rw [← hK]
  cases x with
  | tuple ds =>
    have he : (if ds.length = n then gs ds e else none) = some e' := he
    split at he
    · rename_i hl
      obtain ⟨p, xs, ev, hs, hz, rs⟩ := rx.tuple
      exact ⟨p, xs, ev, hs, by rw [rs.length]; exact hl, N0, e, a, ds, er, rs, e', he, k⟩
    · cases he
  | _ => cases he
theorem ds_asg {tg : Expr} {g : Tg} {js : List Nat} (hg : PG X tg (tG c js g)) (he : PE X e (tD c W F)) (hs : swapsWithSole [tg] e pos.line X.env = pure false := by rfl) (hw : swappedStores [tg] e X.env = pure none := by rfl)
    (h1 : (assignEach [tg] X.env).map (·.2) = [assign tg X.env] := by rfl) : PS X (.Assign [tg] e pos) (tS c W (sSt g F)) := by
  refine PS.imp (ps_asg he hg hs hw h1) fun D σ H h => ?_
  obtain ⟨N0, e, a, er, h⟩ := h
  refine sbindD er h fun x e1 a1 H1 v er1 st rx h => ?_
  revert h
  cases hq : g x e1 with
  | some e' => exact fun h => ⟨N0, e1, a1, x, er1, rx, e', hq, fun a2 σ2 er2 st2 _ _ => h a2 σ2 H1 er2 st2⟩
  | none => exact fun h => h.elim
theorem ds_set (j : Nat) {x : Str} {pos' : Pos} (hN : X.N.Nodup) (hi : X.N[j]? = some x) (hx : Loc X.env.scope x) (he : PE X e (tD c W F)) (hs : swapsWith e (some (.Name x pos')) pos.line X.env = pure false := by rfl)
    (hf : X.fn x = true ∨ X.env.scope.names.lookup x = some .local := by first | exact .inl rfl | exact .inr rfl | assumption) : PS X (.Assign [.Name x pos'] e pos) (tS c W (sSt (gN j) F)) := by
  refine PS.imp (ps_set (i := j) hN hi hx he hs hf) fun D σ H h => ?_
  obtain ⟨N0, e, a, er, h⟩ := h
  refine sbindD er h fun x e1 a1 H1 v er1 st rx h => ?_
  have q := er1.set_d (j := j) rx
  exact h _ _ H1 q.1 q.2
theorem ds_setO (j : Nat) {x : Str} {pos' : Pos} (hN : X.N.Nodup) (hi : X.N[j]? = some x) (hx : Loc X.env.scope x) (hj : c.np ≤ j) (he : PE X e (tO c W FO)) (hs : swapsWith e (some (.Name x pos')) pos.line X.env = pure false := by rfl)
    (hf : X.fn x = true ∨ X.env.scope.names.lookup x = some .local := by first | exact .inl rfl | exact .inr rfl | assumption) : PS X (.Assign [.Name x pos'] e pos) (tS c W (sStO j FO)) := by
  refine PS.imp (ps_set (i := j) hN hi hx he hs hf) fun D σ H h => ?_
  obtain ⟨N0, e, a, er, h⟩ := h
  refine sbindO er h fun x e1 a1 H1 v er1 st hl h => ?_
  split at h
  · rename_i hj2
    obtain ⟨q1, q2⟩ := er1.store hj hj2
    exact h _ _ H1 q1 (q2 _ (Nat.le_of_eq hl) st)
  · exact h.elim

/-! ### what is walked -/
/-- J walks the items, whatever happens to what is owned -/
def Wk (c : Cfg) (N0 : Addr → Prop) (S : Sx) (J : It) (xs : List D) : Prop := ∀ (N1 : Addr → Prop) (S1 : Sx), (∀ p, N1 p → N0 p ∨ NTrk S.h p) → ER c N1 S1 → (∀ b o, S.h b = some o → (¬ ∃ i, b ∈ S.a i) → NT o → S1.h b = some o) → (∀ i p, p ∈ S1.a i → (∃ j, p ∈ S.a j) ∨ NTrk S.h p) →
  ∀ i, (i < xs.length → J.go i S1.h ∧ ∀ v H2, J.yld i S1.h v H2 → Same S1.h H2 ∧ ∃ x, xs[i]? = some x ∧ Rp c.K (NN N1 S1.a) H2 v x) ∧ (xs.length ≤ i → J.stop i S1.h)
def PostI (c : Cfg) (W : WX) (N0 : Addr → Prop) (S : Sx) (r : Res (List D)) (R : It → Hp → Prop) : Prop := match r with
  | .ok xs e' => ∀ a' H' J, ER c N0 ⟨e', a', S.s, H'⟩ → Stp c S ⟨e', a', S.s, H'⟩ → xs.length ≤ sizeLine → Wk c N0 ⟨e', a', S.s, H'⟩ J xs → R J H'
  | .err cn fs e' => PErrX c W N0 S cn fs e'
  | .stuck => False
def tI (c : Cfg) (W : WX) (F : Md (List D)) : TI := fun σ H R => ∃ N0 e a, ER c N0 ⟨e, a, σ, H⟩ ∧ PostI c W N0 ⟨e, a, σ, H⟩ (F e) R
theorem PI.imp {X : Cx} {tg iter : Expr} {t t' : TI} (h : PI X tg iter t) (i : ∀ σ H R, t' σ H R → t σ H R) : PI X tg iter t' := ⟨fun pins s σ H R I q => h.run pins s σ H R I (i σ H R q)⟩
/-- the items of a list, of a tuple -/
def itL : D → Option (List D)
  | .list ds => some ds
  | _ => none
def itT : D → Option (List D)
  | .tuple ds => some ds
  | _ => none
def iOf (f : D → Option (List D)) (m : Md D) : Md (List D) := bnd m fun x => lft (f x)
theorem PostI.from {c : Cfg} {W : WX} {N0 : Addr → Prop} {S S' : Sx} {r : Res (List D)} {R : It → Hp → Prop} (h : PostI c W N0 S r R) (p : Stp c S S') (hs : S'.s = S.s) : PostI c W N0 S' r R := by
  cases r with
  | ok x e' =>
    intro a' H' J er st
    rw [hs] at er st
    rw [hs]
    exact h a' H' J er (p.trans st)
  | err cn fs e' => exact PErrX.from (show PErrX c W N0 S cn fs e' from h) p hs
  | stuck => exact h
theorem ibindD {N0 : Addr → Prop} {e : Env} {a : Nat → List Addr} {σ : L2.St} {H : Hp} {F : Md D} {k : D → Md (List D)} {P : It → Hp → Prop} {R : VK} (er : ER c N0 ⟨e, a, σ, H⟩) (h : PostI c W N0 ⟨e, a, σ, H⟩ (bnd F k e) P)
    (g : ∀ x e1 a1 H1 v, ER c N0 ⟨e1, a1, σ, H1⟩ → Stp c ⟨e, a, σ, H⟩ ⟨e1, a1, σ, H1⟩ → Rp c.K (NN N0 a1) H1 v x → PostI c W N0 ⟨e1, a1, σ, H1⟩ (k x e1) P → R v H1) : tD c W F σ H R := by
  refine ⟨N0, e, a, er, ?_⟩
  unfold bnd at h
  revert h
  generalize F e = r
  cases r with
  | ok x e1 => exact fun h a1 H1 er1 st v rv => g x e1 a1 H1 v er1 st rv (PostI.from h st rfl)
  | err cn fs e1 => exact fun h => h
  | stuck => exact fun h => h
theorem ibindL {N0 : Addr → Prop} {e : Env} {a : Nat → List Addr} {σ : L2.St} {H : Hp} {F : Md (List D)} {k : List D → Md (List D)} {P : It → Hp → Prop} {R : List V → Hp → Prop} (er : ER c N0 ⟨e, a, σ, H⟩) (h : PostI c W N0 ⟨e, a, σ, H⟩ (bnd F k e) P)
    (g : ∀ x e1 a1 H1 v, ER c N0 ⟨e1, a1, σ, H1⟩ → Stp c ⟨e, a, σ, H⟩ ⟨e1, a1, σ, H1⟩ → Rps c.K (NN N0 a1) H1 v x → PostI c W N0 ⟨e1, a1, σ, H1⟩ (k x e1) P → R v H1) : tL c W F σ H R := by
  refine ⟨N0, e, a, er, ?_⟩
  unfold bnd at h
  revert h
  generalize F e = r
  cases r with
  | ok x e1 => exact fun h a1 H1 er1 st v rv => g x e1 a1 H1 v er1 st rv (PostI.from h st rfl)
  | err cn fs e1 => exact fun h => h
  | stuck => exact fun h => h
theorem Rps.wk {N0 N1 : Addr → Prop} {S S1 : Sx} {vs : List V} {xs : List D} (r : Rps c.K (NN N0 S.a) S.h vs xs) (hN : ∀ p, N1 p → N0 p ∨ NTrk S.h p) (hx : ∀ b o, S.h b = some o → (¬ ∃ i, b ∈ S.a i) → NT o → S1.h b = some o) (ha : ∀ i p, p ∈ S1.a i → (∃ j, p ∈ S.a j) ∨ NTrk S.h p) : Rps c.K (NN N1 S1.a) S1.h vs xs :=
  r.move (O := fun b => ∃ i, b ∈ S.a i) hx (fun p z => .inr z) fun p z => z.elim (fun y => (hN p y).imp .inl id) fun ⟨i, y⟩ => (ha i p y).imp .inr id
theorem Rp.wk {N0 N1 : Addr → Prop} {S S1 : Sx} {v : V} {x : D} (r : Rp c.K (NN N0 S.a) S.h v x) (hN : ∀ p, N1 p → N0 p ∨ NTrk S.h p) (hx : ∀ b o, S.h b = some o → (¬ ∃ i, b ∈ S.a i) → NT o → S1.h b = some o) (ha : ∀ i p, p ∈ S1.a i → (∃ j, p ∈ S.a j) ∨ NTrk S.h p) : Rp c.K (NN N1 S1.a) S1.h v x :=
  r.move (O := fun b => ∃ i, b ∈ S.a i) hx (fun p z => .inr z) fun p z => z.elim (fun y => (hN p y).imp .inl id) fun ⟨i, y⟩ => (ha i p y).imp .inr id
theorem di_list {tg : Expr} (hK : c.K = X.K) (he : PE X e (tD c W F)) : PI X tg e (tI c W (iOf itL F)) := by
  refine PI.imp (pi_list he) fun σ H R h => ?_
  obtain ⟨N0, e, a, er, h⟩ := h
  refine ibindD er h fun x e1 a1 H1 v er1 st rx h => ?_
  rw [← hK]
  cases x with
  | list ds =>
    obtain ⟨p, xs, ev, hs, hz, rs⟩ := rx.list
    refine ⟨p, ev, ⟨xs, hs⟩, h a1 H1 _ er1 (Stp.refl _) (by rw [← rs.length]; exact hz) fun N1 S1 hN er2 hx ha i => ?_⟩
    have q := rx.wk (S := ⟨e1, a1, σ, H1⟩) hN hx ha
    rw [ev] at q
    obtain ⟨ys, hs2, hz2, rs2⟩ := q.len_list
    refine ⟨fun hi => ?_, fun hi => ⟨ys, hs2, by rw [rs2.length]; exact hi⟩⟩
    obtain ⟨w, hw, rw'⟩ := rs2.get (i := i) (d := ds[i]) (by simp [hi])
    refine ⟨⟨ys, w, hs2, hw⟩, fun v H2 y => ?_⟩
    obtain ⟨y1, y2⟩ := y
    subst y1
    have e3 := y2 ys hs2
    rw [hw] at e3
    cases e3
    exact ⟨Same.refl _, ds[i], by simp [hi], rw'⟩
  | _ => exact h.elim
theorem di_tup {tg : Expr} (hK : c.K = X.K) (he : PE X e (tD c W F)) : PI X tg e (tI c W (iOf itT F)) := by
  refine PI.imp (pi_tup he) fun σ H R h => ?_
  obtain ⟨N0, e, a, er, h⟩ := h
  refine ibindD er h fun x e1 a1 H1 v er1 st rx h => ?_
  rw [← hK]
  cases x with
  | tuple ds =>
    obtain ⟨p, xs, ev, hs, hz, rs⟩ := rx.tuple
    refine ⟨p, ev, ⟨xs, hs⟩, h a1 H1 _ er1 (Stp.refl _) (by rw [← rs.length]; exact hz) fun N1 S1 hN er2 hx ha i => ?_⟩
    have q := rx.wk (S := ⟨e1, a1, σ, H1⟩) hN hx ha
    rw [ev] at q
    obtain ⟨ys, hs2, hz2, rs2⟩ := q.len_tup
    refine ⟨fun hi => ?_, fun hi => ⟨ys, hs2, by rw [rs2.length]; exact hi⟩⟩
    obtain ⟨w, hw, rw'⟩ := rs2.get (i := i) (d := ds[i]) (by simp [hi])
    refine ⟨⟨ys, w, hs2, hw⟩, fun v H2 y => ?_⟩
    obtain ⟨y1, y2⟩ := y
    subst y1
    have e3 := y2 ys hs2
    rw [hw] at e3
    cases e3
    exact ⟨Same.refl _, ds[i], by simp [hi], rw'⟩
  | _ => exact h.elim
/-- range(n), range(a, b) -/
def rgI (lo : Int) (n : Nat) : List D := (List.range n).map fun (i : Nat) => PyData.int (lo + (i : Int))
theorem wk_rng {N0 : Addr → Prop} {S : Sx} {lo : Int} {n : Nat} : Wk c N0 S (Itr lo n) (rgI lo n) := by
  intro N1 S1 _ _ _ _ i
  have hl : (rgI lo n).length = n := by simp [rgI]
  rw [hl]
  refine ⟨fun hi => ⟨hi, fun v H2 y => ?_⟩, fun hi => hi⟩
  obtain ⟨y1, y2⟩ := y
  subst y1 y2
  exact ⟨Same.refl _, .int (lo + i), by simp [rgI, hi], .int _⟩
def itR1 : List D → Option (List D)
  | [.int j] => if -1000000 ≤ j ∧ j ≤ 1000000 then some (rgI 0 j.toNat) else none
  | _ => none
def itR2 : List D → Option (List D)
  | [.int i, .int j] => if -1000000 ≤ i ∧ i ≤ 1000000 ∧ -1000000 ≤ j ∧ j ≤ 1000000 then some (rgI i (j - i).toNat) else none
  | _ => none
def iOfL (f : List D → Option (List D)) (m : Md (List D)) : Md (List D) := bnd m fun x => lft (f x)
theorem di_rng1 {tg e1 : Expr} {FL : Md (List D)} {p : Pos} (hg : Gl X "range") (hm : X.mg "range" = none) (ha : PA X [e1] (tL c W FL)) (hs : starEach [e1] X.env = [(false, eval e1 X.env)] := by rfl) : PI X tg (.Call (.Name "range" p) [e1] [] pos) (tI c W (iOfL itR1 FL)) := by
  refine PI.imp (pi_range1 hg hm ha hs) fun σ H R h => ?_
  obtain ⟨N0, e, a, er, h⟩ := h
  refine ibindL er h fun xs e1 a1 H1 vs er1 st rx h => ?_
  match xs, rx, h with
  | [.int j], .cons (.int _) .nil, h =>
    have h : PostI c W N0 ⟨e1, a1, σ, H1⟩ (lft (if -1000000 ≤ j ∧ j ≤ 1000000 then some (rgI 0 j.toNat) else none) e1) R := h
    split at h
    · rename_i hj
      have e1' : (2 : Int) ^ 62 = 4611686018427387904 := by decide
      have hl : (rgI 0 j.toNat).length = j.toNat := by simp [rgI]
      exact ⟨j, rfl, by omega, by omega, h a1 H1 _ er1 (Stp.refl _) (by rw [hl, sizeLine_eq]; omega) wk_rng⟩
    · exact h.elim
  | [], _, h => exact h.elim
  | [.none], _, h => exact h.elim
  | [.bool _], _, h => exact h.elim
  | [.str _], _, h => exact h.elim
  | [.list _], _, h => exact h.elim
  | [.tuple _], _, h => exact h.elim
  | [.dict _], _, h => exact h.elim
  | x :: _ :: _, _, h => cases x <;> exact h.elim
theorem di_rng2 {tg e1 e2 : Expr} {FL : Md (List D)} {p : Pos} (hg : Gl X "range") (hm : X.mg "range" = none) (ha : PA X [e1, e2] (tL c W FL)) (hs : starEach [e1, e2] X.env = [(false, eval e1 X.env), (false, eval e2 X.env)] := by rfl) (hs2 : starEach [e2] X.env = [(false, eval e2 X.env)] := by rfl) :
    PI X tg (.Call (.Name "range" p) [e1, e2] [] pos) (tI c W (iOfL itR2 FL)) := by
  refine PI.imp (pi_range2 hg hm ha hs hs2) fun σ H R h => ?_
  obtain ⟨N0, e, a, er, h⟩ := h
  refine ibindL er h fun xs e1 a1 H1 vs er1 st rx h => ?_
  obtain ⟨ys, hy, k⟩ : ∃ ys, itR2 xs = some ys ∧ (ys.length ≤ sizeLine → ∀ J, Wk c N0 ⟨e1, a1, σ, H1⟩ J ys → R J H1) := by
    cases hq : itR2 xs with
    | none => rw [hq] at h; exact h.elim
    | some ys =>
      rw [hq] at h
      exact ⟨ys, rfl, fun hz J wk => h a1 H1 J er1 (Stp.refl _) hz wk⟩
  unfold itR2 at hy
  split at hy
  · rename_i i j
    split at hy
    · rename_i hij
      cases hy
      cases rx with
      | cons r1 rr =>
        cases r1
        cases rr with
        | cons r2 rr =>
          cases r2
          cases rr
          have e1' : (2 : Int) ^ 62 = 4611686018427387904 := by decide
          have hl : (rgI i (j - i).toNat).length = (j - i).toNat := by simp [rgI]
          exact ⟨i, j, rfl, ⟨by omega, by omega, by omega, by omega⟩, k (by rw [hl, sizeLine_eq]; omega) _ wk_rng⟩
    · cases hy
  · cases hy
/-! loops -/
theorem ds_for {tg iter : Expr} {body : List Stmt} {FI : Md (List D)} {g : Tg} {js : List Nat} (hp : PassesOwn (model X.prog X.w) X.A X.env X.xe) (hc : X.calm = true) (hi : PI X tg iter (tI c W FI)) (hg : PG X tg (tG c js g)) (hb : PSs X body (tS c W G))
    (hs : ∀ x, foldedSetIterable iter X.env x = pure x := by intro _; rfl) : PS X (.For tg iter body [] pos) (tS c W (sFor FI g G)) := by
  refine PS.imp (ps_for hp hc hi hg hb hs) fun D σ H h => ?_
  obtain ⟨N0, e, a, er, h⟩ := h
  refine ⟨N0, e, a, er, ?_⟩
  unfold sFor sB at h
  revert h
  generalize FI e = r
  cases r with
  | err cn fs e1 => exact fun h => PErr.x h
  | stuck => exact fun h => h
  | ok xs e1 =>
    intro h a1 H1 J er1 st1 hz wk
    have h := PostS.from h st1
    refine ⟨fun i m σ' H' => ∃ e' a', ER c N0 ⟨e', a', σ', H'⟩ ∧ Stp c ⟨e1, a1, σ, H1⟩ ⟨e', a', σ', H'⟩ ∧ i ≤ xs.length ∧ m = xs.length - i ∧ PostS c W N0 ⟨e', a', σ', H'⟩ (forR g G (xs.drop i) e') D, ⟨xs.length, e1, a1, er1, Stp.refl _, Nat.zero_le _, rfl, h⟩, ?_⟩
    rintro i m σ' H' ⟨e', a', er', st', hi', rfl, h'⟩
    have w := wk N0 ⟨e', a', σ', H'⟩ (fun p z => .inl z) er' st'.ext st'.new i
    by_cases hlt : i < xs.length
    · obtain ⟨w1, w2⟩ := w.1 hlt
      have ed : xs.drop i = xs[i] :: xs.drop (i + 1) := List.drop_eq_getElem_cons hlt
      rw [ed] at h'
      unfold forR at h'
      refine .inr ⟨w1, fun σ2 H2 => ∃ e2 a2, ER c N0 ⟨e2, a2, σ2, H2⟩ ∧ Stp c ⟨e1, a1, σ, H1⟩ ⟨e2, a2, σ2, H2⟩ ∧ PostS c W N0 ⟨e2, a2, σ2, H2⟩ (forR g G (xs.drop (i + 1)) e2) D, ?_, fun v H2 y => ?_⟩
      · rintro σ2 H2 ⟨e2, a2, er2, st2, h2⟩
        exact ⟨xs.length - (i + 1), by omega, e2, a2, er2, st2, hlt, rfl, h2⟩
      · obtain ⟨sm, x, hx, rx⟩ := w2 v H2 y
        rw [List.getElem?_eq_getElem hlt] at hx
        cases hx
        revert h'
        cases hq : g xs[i] e' with
        | none => exact fun h => h.elim
        | some e2 =>
          intro h'
          have er3 := er'.grow (S := ⟨e', a', σ', H'⟩) sm
          refine ⟨N0, e', a', _, er3, rx, e2, hq, fun a2 σ2 er2 st2 _ _ => ⟨N0, e2, a2, er2, ?_⟩⟩
          have st3 : Stp c ⟨e', a', σ', H'⟩ ⟨e2, a2, σ2, H2⟩ := (Stp.grow (S := ⟨e', a', σ', H'⟩) sm).trans st2
          revert h'
          simp only
          cases hG : G e2 with
          | nx e3 => exact fun h' a3 s3 H3 er3 st4 => ⟨e3, a3, er3, st'.trans (st3.trans st4), PostS.from h' (st3.trans st4)⟩
          | ct e3 => exact fun h' a3 s3 H3 er3 st4 => ⟨e3, a3, er3, st'.trans (st3.trans st4), PostS.from h' (st3.trans st4)⟩
          | bk e3 => exact fun h' a3 s3 H3 er3 st4 => h' a3 s3 H3 er3 (st3.trans st4)
          | rt v3 e3 => exact fun h' a3 s3 H3 u er3 st4 hl => h' a3 s3 H3 u er3 (st3.trans st4) (Nat.le_trans st3.ln hl)
          | err cn fs e3 => exact fun h' => PErr.from h' st3
          | stuck => exact fun h' => h'
    · have e0 : i = xs.length := by omega
      subst e0
      rw [List.drop_length] at h'
      exact .inl ⟨w.2 (Nat.le_refl _), h' a' σ' H' er' (Stp.refl _)⟩
theorem ds_while (n : Nat) {t : Expr} {body : List Stmt} (hp : PassesOwn (model X.prog X.w) X.A X.env X.xe) (ht : PT X t (tT c W T)) (hb : PSs X body (tS c W G)) : PS X (.While t body [] pos) (tS c W (sWh n T G)) := by
  refine PS.imp (ps_while hp ht hb) fun D σ H h => ?_
  obtain ⟨N0, e, a, er, h⟩ := h
  refine ⟨fun m σ' H' => ∃ e' a', ER c N0 ⟨e', a', σ', H'⟩ ∧ PostS c W N0 ⟨e', a', σ', H'⟩ (whR T G m e') D, ⟨n, e, a, er, h⟩, ?_⟩
  rintro m σ' H' ⟨e', a', er', h'⟩
  cases m with
  | zero => exact h'.elim
  | succ m =>
    unfold whR at h'
    refine ⟨N0, e', a', er', ?_⟩
    revert h'
    cases hT : T e' with
    | stuck => exact fun h => h
    | err cn fs e1 => exact fun h => PErr.x h
    | ok b e1 =>
      cases b with
      | false => exact fun h' a1 H1 er1 st1 => iteF (h' a1 σ' H1 er1 st1)
      | true =>
        intro h' a1 H1 er1 st1
        refine iteT ⟨fun σ2 H2 => ∃ e2 a2, ER c N0 ⟨e2, a2, σ2, H2⟩ ∧ PostS c W N0 ⟨e2, a2, σ2, H2⟩ (whR T G m e2) D, fun σ2 H2 q => ⟨m, Nat.lt_succ_self m, q⟩, N0, e1, a1, er1, ?_⟩
        revert h'
        simp only
        cases hG : G e1 with
        | nx e3 => exact fun h' a3 s3 H3 er3 st4 => ⟨e3, a3, er3, PostS.from h' (st1.trans st4)⟩
        | ct e3 => exact fun h' a3 s3 H3 er3 st4 => ⟨e3, a3, er3, PostS.from h' (st1.trans st4)⟩
        | bk e3 => exact fun h' a3 s3 H3 er3 st4 => h' a3 s3 H3 er3 (st1.trans st4)
        | rt v3 e3 => exact fun h' a3 s3 H3 u er3 st4 hl => h' a3 s3 H3 u er3 (st1.trans st4) (Nat.le_trans st1.ln hl)
        | err cn fs e3 => exact fun h' => PErr.from h' st1
        | stuck => exact fun h' => h'
end
end VL

set_option Elab.async false
set_option autoImplicit false
set_option linter.all false
set_option maxRecDepth 100000
set_option maxHeartbeats 4000000
/-! VL4: list comprehensions of one clause. -/
namespace VL
open PySem PySem.Spec PyProof.Rows L2 LamX

def wipeE (e : Env) : List Nat → Env
  | [] => e
  | v :: vs => (wipeE e vs).set v .unset
def restE (e0 e : Env) : List Nat → Env
  | [] => e
  | v :: vs => (restE e0 e vs).set v (e0.getD v .unset)
/-- the items that a comprehension makes; nothing may be raised -/
def lcR (vs : List Nat) (g : Tg) (t : Md Bool) (f : Md D) : List D → Md (List D)
  | [], e => .ok [] e
  | x :: xs, e => match g x (wipeE e vs) with
    | none => .stuck
    | some e1 => match t e1 with
      | .ok true e2 => (match f e2 with
        | .ok y e3 => (match lcR vs g t f xs e3 with
          | .ok ys e4 => .ok (y :: ys) e4
          | _ => .stuck)
        | _ => .stuck)
      | .ok false e2 => lcR vs g t f xs e2
      | _ => .stuck
def ownAt (e : Env) (vs : List Nat) : Bool := vs.any fun i => (e.getD i .unset).own
def eLc (it : Md (List D)) (vs : List Nat) (g : Tg) (t : Md Bool) (f : Md D) : Md D := bnd it fun xs e1 => if ownAt e1 vs = true then .stuck else match lcR vs g t f xs e1 with
  | .ok ys e2 => .ok (.list ys) (restE e1 e2 vs)
  | _ => .stuck
def tYs : Md Bool := fun e => .ok true e

theorem wipeE_length (e : Env) : ∀ vs : List Nat, (wipeE e vs).length = e.length
  | [] => rfl
  | v :: vs => by unfold wipeE; rw [List.length_set, wipeE_length e vs]
theorem restE_length (e0 e : Env) : ∀ vs : List Nat, (restE e0 e vs).length = e.length
  | [] => rfl
  | v :: vs => by unfold restE; rw [List.length_set, restE_length e0 e vs]
theorem wipeE_in {e : Env} {i : Nat} (h : i < e.length) : ∀ {vs : List Nat}, i ∈ vs → (wipeE e vs)[i]? = some .unset
  | v :: vs, hv => by
    unfold wipeE
    by_cases e1 : i = v
    · rw [e1, List.getElem?_set_self (by rw [wipeE_length, ← e1]; exact h)]
    · rw [List.getElem?_set_ne (Ne.symm e1)]
      exact wipeE_in h ((List.mem_cons.mp hv).resolve_left e1)
theorem wipeE_out {e : Env} {i : Nat} : ∀ {vs : List Nat}, i ∉ vs → (wipeE e vs)[i]? = e[i]?
  | [], _ => rfl
  | v :: vs, hv => by
    unfold wipeE
    rw [List.getElem?_set_ne (fun e => hv (by rw [e]; exact List.mem_cons_self))]
    exact wipeE_out fun m => hv (List.mem_cons_of_mem _ m)
theorem restE_in {e0 e : Env} {i : Nat} (h : i < e.length) : ∀ {vs : List Nat}, i ∈ vs → (restE e0 e vs)[i]? = some (e0.getD i .unset)
  | v :: vs, hv => by
    unfold restE
    by_cases e1 : i = v
    · rw [e1, List.getElem?_set_self (by rw [restE_length, ← e1]; exact h)]
    · rw [List.getElem?_set_ne (Ne.symm e1)]
      exact restE_in h ((List.mem_cons.mp hv).resolve_left e1)
theorem restE_out {e0 e : Env} {i : Nat} : ∀ {vs : List Nat}, i ∉ vs → (restE e0 e vs)[i]? = e[i]?
  | [], _ => rfl
  | v :: vs, hv => by
    unfold restE
    rw [List.getElem?_set_ne (fun e => hv (by rw [e]; exact List.mem_cons_self))]
    exact restE_out fun m => hv (List.mem_cons_of_mem _ m)
abbrev wipeA (a : Nat → List Addr) (vs : List Nat) : Nat → List Addr := fun i => if i ∈ vs then [] else a i
section
variable {c : Cfg} {N0 : Addr → Prop} {e : Env} {a : Nat → List Addr} {σ : L2.St} {H : Hp}
theorem wipeA_mem {vs : List Nat} {i : Nat} {p : Addr} (h : p ∈ wipeA a vs i) : p ∈ a i ∧ i ∉ vs := by
  by_cases hi : i ∈ vs
  · have h : p ∈ (if i ∈ vs then [] else a i) := h
    rw [if_pos hi] at h; cases h
  · have h : p ∈ (if i ∈ vs then [] else a i) := h
    rw [if_neg hi] at h; exact ⟨h, hi⟩
theorem wipe_in {σ : L2.St} {i : Nat} (h : i < σ.length) : ∀ {vs : List Nat}, i ∈ vs → (L2.wipe σ vs)[i]? = some none
  | v :: vs, hv => by
    unfold L2.wipe
    by_cases e1 : i = v
    · rw [e1, List.getElem?_set_self (by rw [L2.wipe_length, ← e1]; exact h)]
    · rw [List.getElem?_set_ne (Ne.symm e1)]
      exact wipe_in h ((List.mem_cons.mp hv).resolve_left e1)
theorem ER.wipe (vs : List Nat) (h : ER c N0 ⟨e, a, σ, H⟩) : ER c N0 ⟨wipeE e vs, wipeA a vs, L2.wipe σ vs, H⟩ ∧ Stp c ⟨e, a, σ, H⟩ ⟨wipeE e vs, wipeA a vs, L2.wipe σ vs, H⟩ := by
  have hl : σ.length = e.length := h.len
  have nn : ∀ p, NN N0 (wipeA a vs) p → NN N0 a p := fun p hp => hp.elim .inl fun ⟨i, z⟩ => .inr ⟨i, (wipeA_mem z).1⟩
  have key : ∀ i sv, (wipeE e vs)[i]? = some sv → (i ∈ vs ∧ sv = .unset) ∨ (i ∉ vs ∧ e[i]? = some sv) := fun i sv q => by
    by_cases hi : i ∈ vs
    · have hlt : i < e.length := by
        have := (List.getElem?_eq_some_iff.mp q).1
        rwa [wipeE_length] at this
      rw [wipeE_in hlt hi] at q
      cases q
      exact .inl ⟨hi, rfl⟩
    · rw [wipeE_out hi] at q
      exact .inr ⟨hi, q⟩
  refine ⟨⟨by show (L2.wipe σ vs).length = (wipeE e vs).length; rw [L2.wipe_length, wipeE_length]; exact hl, fun i sv q => ?_, fun i q => ?_, fun i => ?_, fun i k p h1 h2 => h.dj i k p (wipeA_mem h1).1 (wipeA_mem h2).1, fun i p h1 => h.n0 i p (wipeA_mem h1).1, h.tr, h.tb⟩,
    .of h (by show e.length ≤ (wipeE e vs).length; rw [wipeE_length]; exact Nat.le_refl _) (fun b o q _ => q) (fun i p h1 => .inl ⟨i, (wipeA_mem h1).1⟩) (fun i sv hi q o => ?_)⟩
  · rcases key i sv q with ⟨_, z⟩ | ⟨n, z⟩
    · exact .inl z
    · rcases h.slot i sv z with y | ⟨v, e1, r⟩
      · exact .inl y
      · refine .inr ⟨v, by show (L2.wipe σ vs)[i]? = _; rw [L2.wipe_out n]; exact e1, ?_⟩
        show Sr c (NN N0 (wipeA a vs)) H v sv (if i ∈ vs then [] else a i)
        rw [if_neg n]
        exact r.move (O := fun _ => False) (fun b o q _ _ => q) (fun _ z => z.elim) (fun p z => .inl (nn p z)) fun _ _ z => z
  · show (if i ∈ vs then [] else a i) = []
    have q : (wipeE e vs)[i]? = none ∨ (wipeE e vs)[i]? = some .unset := q
    by_cases hi : i ∈ vs
    · rw [if_pos hi]
    · rw [if_neg hi]
      rw [wipeE_out hi] at q
      exact h.zero i q
  · show (if i ∈ vs then [] else a i).Nodup
    by_cases hi : i ∈ vs
    · rw [if_pos hi]; exact List.nodup_nil
    · rw [if_neg hi]; exact h.nd i
  · rcases key i sv q with ⟨_, z⟩ | ⟨n, z⟩
    · subst z; cases o
    · exact ⟨by show (L2.wipe σ vs)[i]? = σ[i]?; rw [L2.wipe_out n], sv, z, o⟩
/-- a new object set apart -/
theorem ER.protect {p : Addr} {o : HO} (h : ER c N0 ⟨e, a, σ, H⟩) (hp : H p = none) (ht : NT o) : ER c (fun q => N0 q ∨ q = p) ⟨e, a, σ, upd H p o⟩ := by
  have hx : ∀ b u, H b = some u → ¬ (fun _ : Addr => False) b → NT u → upd H p o b = some u := fun b u q _ _ => same_upd hp b u q
  refine ⟨h.len, fun i sv q => ?_, h.zero, h.nd, h.dj, fun i q hq z => ?_, fun q hq => ?_, fun p' hp' => (h.tb p' hp').ext (same_upd hp)⟩
  · rcases h.slot i sv q with z | ⟨v, e1, r⟩
    · exact .inl z
    · refine .inr ⟨v, e1, r.move hx (fun _ z => z.elim) (fun q z => ?_) fun _ _ z => z⟩
      rcases z with (z | z) | z
      · exact .inl (.inl z)
      · exact .inr (by rw [z]; exact NTrk.of hp)
      · exact .inl (.inr z)
  · rcases z with z | z
    · exact h.n0 i q hq z
    · exact h.own_tr i q hq (by show H q = none; rw [z]; exact hp)
  · rcases hq with hq | hq
    · obtain ⟨u, e1, t⟩ := h.tr q hq
      exact ⟨u, same_upd hp q u e1, t⟩
    · rw [hq]; exact ⟨o, upd_same, ht⟩
/-- what is set apart is written -/
theorem ER.upd_apart {p : Addr} {o o1 : HO} (h : ER c N0 ⟨e, a, σ, H⟩) (hp : N0 p) (hp1 : H p = some o1) (hp2 : NT o1) (hp3 : ∀ r, o1 ≠ .ext r) (ht : NT o) : ER c N0 ⟨e, a, σ, upd H p o⟩ := by
  have hx : ∀ b u, H b = some u → ¬ b = p → NT u → upd H p o b = some u := fun b u q n _ => by rw [upd_ne n]; exact q
  refine ⟨h.len, fun i sv q => ?_, h.zero, h.nd, h.dj, h.n0, fun q hq => ?_, fun p' hp' => tab_put (h.tb p' hp') hp1 hp2 hp3⟩
  · rcases h.slot i sv q with z | ⟨v, e1, r⟩
    · exact .inl z
    · exact .inr ⟨v, e1, r.move (O := fun b => b = p) hx (fun q z => by rw [z]; exact .inl hp) (fun q z => .inl z) fun q m z => h.n0 i q m (by rw [z]; exact hp)⟩
  · by_cases e1 : q = p
    · rw [e1]; exact ⟨o, upd_same, ht⟩
    · obtain ⟨u, e2, t⟩ := h.tr q hq
      exact ⟨u, by show upd H p o q = _; rw [upd_ne e1]; exact e2, t⟩
theorem Rps.upd_apart {p : Addr} {o : HO} {vs : List V} {xs : List D} (h : Rps c.K (NN N0 a) H vs xs) (hp : N0 p) : Rps c.K (NN N0 a) (upd H p o) vs xs :=
  h.move (O := fun b => b = p) (fun b u q n _ => by rw [upd_ne n]; exact q) (fun q z => by rw [z]; exact .inl hp) fun q z => .inl z
/-- back behind a comprehension -/
theorem ER.restore {vs : List Nat} {N1 : Addr → Prop} {e1 ek : Env} {a1 ak : Nat → List Addr} {H1 : Hp} (h : ER c N0 ⟨e1, a1, σ, H1⟩) (no : ownAt e1 vs = false) (hk : ER c N1 ⟨wipeE ek vs, ak, L2.wipe σ vs, H⟩) (hN : ∀ p, N0 p → N1 p)
    (hx : ∀ b o, H1 b = some o → (¬ ∃ i, b ∈ a1 i) → NT o → H b = some o) (ha : ∀ i p, p ∈ ak i → (∃ j, p ∈ a1 j) ∨ NTrk H1 p) (kp : ∀ i sv, i < c.np ∧ i < e1.length → (wipeE ek vs)[i]? = some sv → sv.own = true → ∃ su, (wipeE e1 vs)[i]? = some su ∧ su.own = true) :
    ER c N0 ⟨restE e1 ek vs, ak, σ, H⟩ ∧ Stp c ⟨e1, a1, σ, H1⟩ ⟨restE e1 ek vs, ak, σ, H⟩ := by
  have hl : σ.length = e1.length := h.len
  have hl2 : (L2.wipe σ vs).length = (wipeE ek vs).length := hk.len
  rw [L2.wipe_length, wipeE_length] at hl2
  have nn : ∀ p, NN N0 ak p → NN N1 ak p := fun p hp => hp.imp (hN p) id
  have nb : ∀ i ∈ vs, (e1.getD i .unset).own = false := fun i hi => by
    have q : vs.any (fun i => (e1.getD i .unset).own) = false := no
    rw [List.any_eq_false] at q
    have := q i hi
    simpa using this
  have key : ∀ i sv, (restE e1 ek vs)[i]? = some sv → (i ∈ vs ∧ e1[i]? = some sv) ∨ (i ∉ vs ∧ (wipeE ek vs)[i]? = some sv) := fun i sv q => by
    by_cases hi : i ∈ vs
    · have hlt : i < ek.length := by
        have := (List.getElem?_eq_some_iff.mp q).1
        rwa [restE_length] at this
      rw [restE_in hlt hi] at q
      refine .inl ⟨hi, ?_⟩
      have : i < e1.length := by omega
      rw [List.getD_eq_getElem?_getD, List.getElem?_eq_getElem this] at q
      rw [List.getElem?_eq_getElem this]
      simpa using q
    · rw [restE_out hi] at q
      exact .inr ⟨hi, by rw [wipeE_out hi]; exact q⟩
  have zin : ∀ i, i ∈ vs → ak i = [] := fun i hi => by
    refine hk.zero i ?_
    show (wipeE ek vs)[i]? = none ∨ (wipeE ek vs)[i]? = some .unset
    by_cases hlt : i < ek.length
    · exact .inr (wipeE_in hlt hi)
    · exact .inl (List.getElem?_eq_none (by rw [wipeE_length]; omega))
  refine ⟨⟨by show σ.length = (restE e1 ek vs).length; rw [restE_length]; omega, fun i sv q => ?_, fun i q => ?_, hk.nd, hk.dj, fun i p m z => hk.n0 i p m (hN p z), fun p z => hk.tr p (hN p z), hk.tb⟩,
    ⟨by show e1.length ≤ (restE e1 ek vs).length; rw [restE_length]; omega, hx, ha, fun i sv hi q o => ⟨rfl, ?_⟩⟩⟩
  · rcases key i sv q with ⟨hi, q⟩ | ⟨hi, q⟩
    · have on := nb i hi
      rw [List.getD_eq_getElem?_getD, q] at on
      rcases h.slot i sv q with z | ⟨v, e2, r⟩
      · exact .inl z
      · refine .inr ⟨v, e2, ?_⟩
        show Sr c (NN N0 ak) H v sv (ak i)
        have z := r.nown (by simpa using on)
        have r : Sr c (NN N0 a1) H1 v sv (a1 i) := r
        rw [show a1 i = [] from z] at r
        rw [zin i hi]
        exact r.move (O := fun b => ∃ j, b ∈ a1 j) hx (fun p z => .inr z) (fun p z => z.elim (fun y => .inl (.inl y)) fun ⟨j, y⟩ => (ha j p y).imp .inr id) fun _ m => nomatch m
    · rcases hk.slot i sv q with z | ⟨v, e2, r⟩
      · exact .inl z
      · have e2 : (L2.wipe σ vs)[i]? = some (some v) := e2
        rw [L2.wipe_out hi] at e2
        exact .inr ⟨v, e2, r.move (O := fun _ => False) (fun b o q _ _ => q) (fun _ z => z.elim) (fun p z => .inl (nn p z)) fun _ _ z => z⟩
  · have q : (restE e1 ek vs)[i]? = none ∨ (restE e1 ek vs)[i]? = some .unset := q
    by_cases hi : i ∈ vs
    · exact zin i hi
    · rw [restE_out hi] at q
      refine hk.zero i ?_
      show (wipeE ek vs)[i]? = none ∨ (wipeE ek vs)[i]? = some .unset
      rw [wipeE_out hi]
      exact q
  · rcases key i sv q with ⟨hi2, q⟩ | ⟨hi2, q⟩
    · exact ⟨sv, q, o⟩
    · obtain ⟨su, q1, q2⟩ := kp i sv hi q o
      rw [wipeE_out hi2] at q1
      exact ⟨su, q1, q2⟩
end
abbrev WF : WX := fun _ _ _ _ => False
section
variable {X : Cx} {c : Cfg} {W : WX} {elt tg iter : Expr} {ifs : List Expr} {scope : Scope} {own : List (Str × Nat)} {pos : Pos} {FI : Md (List D)} {g : Tg} {T : Md Bool} {F : Md D}
/-- a comprehension's tests -/
def tTs (c : Cfg) (T : Md Bool) : TT := tT c WF T
theorem dts_nil : PTs X [] (tTs c tYs) := by
  refine ⟨fun pins s σ H Q I h => pts_nil.run pins s σ H Q I ?_⟩
  obtain ⟨N0, e, a, er, h⟩ := h
  exact h a H er (Stp.refl _)
theorem dts_one {t : Expr} (h : PT X t (tT c WF T)) : PTs X [t] (tTs c T) := pts_one h
theorem lc_imp : ∀ (c : Cfg) (W : WX) (FI : Md (List D)) (vs : List Nat) (g : Tg) (js : List Nat) (T : Md Bool) (F : Md D) (σ : L2.St) (H : Hp) (Q : VK), (∀ j ∈ js, j ∈ vs) → tD c W (eLc FI vs g T F) σ H Q → tLc (tI c W FI) (tG c js g) (tTs c T) (tD c WF F) vs σ H Q := by
  intro c W FI vs g js T F σ H Q hjs h
  obtain ⟨N0, e, a, er, h⟩ := h
  refine ⟨N0, e, a, er, ?_⟩
  unfold eLc bnd at h
  revert h
  generalize FI e = r
  cases r with
  | err cn fs e1 => exact fun h => h
  | stuck => exact fun h => h
  | ok xs e1 =>
    intro h a1 H1 J er1 st1 hz wk Dp hD
    have h := Post.from h st1 rfl
    revert h
    simp only
    cases no : ownAt e1 vs with
    | true => exact fun h => h.elim
    | false =>
      simp only [Bool.false_eq_true, if_false]
      cases hr : lcR vs g T F xs e1 with
      | stuck => exact fun h => h.elim
      | err cn fs e2 => exact fun h => h.elim
      | ok ys efin =>
        intro h
        -- the invariant of the turns
        obtain ⟨w0, w0s⟩ := er1.wipe vs
        have p0 := ER.protect (o := .lst []) w0 hD (fun _ z => nomatch z)
        refine ⟨fun i m H' => ∃ ek ak acc done zs, ER c (fun q => N0 q ∨ q = Dp) ⟨wipeE ek vs, ak, L2.wipe σ vs, H'⟩ ∧ Stp c ⟨wipeE e1 vs, wipeA a1 vs, L2.wipe σ vs, H1⟩ ⟨wipeE ek vs, ak, L2.wipe σ vs, H'⟩ ∧ H' Dp = some (.lst acc) ∧
          Rps c.K (NN (fun q => N0 q ∨ q = Dp) ak) H' acc done ∧ done.length ≤ i ∧ i ≤ xs.length ∧ m = xs.length - i ∧ lcR vs g T F (xs.drop i) ek = .ok zs efin ∧ done ++ zs = ys,
          ⟨xs.length, e1, wipeA a1 vs, [], [], ys, p0, ⟨Nat.le_refl _, fun b o q _ _ => same_upd hD b o q, fun i p m => .inl ⟨i, m⟩, fun i sv _ q o => ⟨rfl, sv, q, o⟩⟩, upd_same, .nil, Nat.le_refl _, Nat.zero_le _, rfl, hr, rfl⟩, ?_⟩
        rintro i m H' ⟨ek, ak, acc, done, zs, erk, stk, hDk, ra, hdl, hil, rfl, hlc, hys⟩
        have fr : ∀ p, (N0 p ∨ p = Dp) → N0 p ∨ NTrk H1 p := fun p z => z.imp id fun y => by rw [y]; exact NTrk.of hD
        have w1x : ∀ b o, H1 b = some o → (¬ ∃ i, b ∈ a1 i) → NT o → H' b = some o := fun b o q n t => stk.ext b o q (fun ⟨k, m⟩ => n ⟨k, (wipeA_mem m).1⟩) t
        have w1a : ∀ i p, p ∈ ak i → (∃ j, p ∈ a1 j) ∨ NTrk H1 p := fun i p m => (stk.new i p m).imp (fun ⟨k, m⟩ => ⟨k, (wipeA_mem m).1⟩) id
        have w := wk (fun q => N0 q ∨ q = Dp) ⟨wipeE ek vs, ak, L2.wipe σ vs, H'⟩ fr erk w1x w1a i
        by_cases hlt : i < xs.length
        · obtain ⟨go, yl⟩ := w.1 hlt
          have ed : xs.drop i = xs[i] :: xs.drop (i + 1) := List.drop_eq_getElem_cons hlt
          rw [ed] at hlc
          unfold lcR at hlc
          refine .inr ⟨go, fun H'' => ∃ ek ak acc done zs, ER c (fun q => N0 q ∨ q = Dp) ⟨wipeE ek vs, ak, L2.wipe σ vs, H''⟩ ∧ Stp c ⟨wipeE e1 vs, wipeA a1 vs, L2.wipe σ vs, H1⟩ ⟨wipeE ek vs, ak, L2.wipe σ vs, H''⟩ ∧ H'' Dp = some (.lst acc) ∧
            Rps c.K (NN (fun q => N0 q ∨ q = Dp) ak) H'' acc done ∧ done.length ≤ i + 1 ∧ lcR vs g T F (xs.drop (i + 1)) ek = .ok zs efin ∧ done ++ zs = ys, ?_, fun v H2 y => ?_⟩
          · rintro H'' ⟨ek, ak, acc, done, zs, q1, q2, q3, q4, q5, q6, q7⟩
            exact ⟨xs.length - (i + 1), by omega, ek, ak, acc, done, zs, q1, q2, q3, q4, q5, hlt, rfl, q6, q7⟩
          · obtain ⟨sm, x, hx, rx⟩ := yl v H2 y
            rw [List.getElem?_eq_getElem hlt] at hx
            cases hx
            revert hlc
            cases hg : g xs[i] (wipeE ek vs) with
            | none => exact fun z => nomatch z
            | some e2 =>
              simp only
              intro hlc
              have er2 := erk.grow (S := ⟨wipeE ek vs, ak, L2.wipe σ vs, H'⟩) sm
              refine ⟨_, _, _, _, er2, rx, e2, hg, fun a3 σ3 er3 st3 l3 o3 => ?_⟩
              have ew : L2.wipe σ3 vs = L2.wipe σ vs := by
                have l3 : σ3.length = σ.length := l3.trans (L2.wipe_length _ _)
                refine List.ext_getElem? fun i => ?_
                by_cases hi : i ∈ vs
                · by_cases hlt : i < σ.length
                  · rw [wipe_in (by omega) hi, wipe_in hlt hi]
                  · rw [List.getElem?_eq_none (by rw [L2.wipe_length]; omega), List.getElem?_eq_none (by rw [L2.wipe_length]; omega)]
                · rw [L2.wipe_out hi, L2.wipe_out hi]
                  exact (o3 i fun m => hi (hjs i m)).trans (L2.wipe_out hi)
              refine ⟨ew, ?_⟩
              have st3' : Stp c ⟨wipeE e1 vs, wipeA a1 vs, L2.wipe σ vs, H1⟩ ⟨e2, a3, σ3, H2⟩ := stk.trans ((Stp.grow (S := ⟨wipeE ek vs, ak, L2.wipe σ vs, H'⟩) sm).trans st3)
              have hDk2 : H2 Dp = some (.lst acc) := sm _ _ hDk
              have ra2 : Rps c.K (NN (fun q => N0 q ∨ q = Dp) a3) H2 acc done := (ra.same sm).step (S := ⟨wipeE ek vs, ak, L2.wipe σ vs, H2⟩) (S' := ⟨e2, a3, σ3, H2⟩) st3
              have dn : ∀ {S' : Sx}, ER c (fun q => N0 q ∨ q = Dp) S' → ¬ ∃ i, Dp ∈ S'.a i := fun q ⟨i, m⟩ => q.n0 i _ m (.inr rfl)
              refine ⟨_, e2, a3, er3, ?_⟩
              revert hlc
              cases hT : T e2 with
              | stuck => exact fun z => nomatch z
              | err cn fs e3 => exact fun z => nomatch z
              | ok b e3 =>
                cases b with
                | false =>
                  simp only
                  intro hlc a4 H4 er4 st4
                  refine iteF ?_
                  obtain ⟨w4, s4⟩ := er4.wipe vs
                  rw [ew] at w4 s4
                  have ra4 : Rps c.K (NN (fun q => N0 q ∨ q = Dp) a4) H4 acc done := ra2.step (S := ⟨e2, a3, σ3, H2⟩) (S' := ⟨e3, a4, σ3, H4⟩) st4
                  refine ⟨e3, wipeA a4 vs, acc, done, zs, w4, st3'.trans (st4.trans s4), st4.ext _ _ hDk2 (dn er3) (fun _ z => nomatch z), ?_, by omega, hlc, hys⟩
                  exact ra4.step (S := ⟨e3, a4, σ3, H4⟩) (S' := ⟨wipeE e3 vs, wipeA a4 vs, L2.wipe σ vs, H4⟩) s4
                | true =>
                  simp only
                  intro hlc a4 H4 er4 st4
                  refine iteT ?_
                  have ra4 : Rps c.K (NN (fun q => N0 q ∨ q = Dp) a4) H4 acc done := ra2.step (S := ⟨e2, a3, σ3, H2⟩) (S' := ⟨e3, a4, σ3, H4⟩) st4
                  refine ⟨_, e3, a4, er4, ?_⟩
                  revert hlc
                  cases hF : F e3 with
                  | stuck => exact fun z => nomatch z
                  | err cn fs e4 => exact fun z => nomatch z
                  | ok y e4 =>
                    simp only
                    intro hlc a5 H5 er5 st5 u ru
                    have hD4 : H4 Dp = some (.lst acc) := st4.ext _ _ hDk2 (dn er3) (fun _ z => nomatch z)
                    have hD5 : H5 Dp = some (.lst acc) := st5.ext _ _ hD4 (dn er4) (fun _ z => nomatch z)
                    have ra5 : Rps c.K (NN (fun q => N0 q ∨ q = Dp) a5) H5 acc done := ra4.step (S := ⟨e3, a4, σ3, H4⟩) (S' := ⟨e4, a5, σ3, H5⟩) st5
                    revert hlc
                    cases hl : lcR vs g T F (xs.drop (i + 1)) e4 with
                    | stuck => exact fun z => nomatch z
                    | err cn fs e6 => exact fun z => nomatch z
                    | ok zs' e6 =>
                      simp only
                      intro hlc
                      cases hlc
                      refine ⟨acc, hD5, by rw [ra5.length]; omega, ?_⟩
                      obtain ⟨w5, s5⟩ := er5.wipe vs
                      rw [ew] at w5 s5
                      have ra6 : Rps c.K (NN (fun q => N0 q ∨ q = Dp) (wipeA a5 vs)) H5 (acc ++ [u]) (done ++ [y]) := (ra5.last ru).step (S := ⟨e4, a5, σ3, H5⟩) (S' := ⟨wipeE e4 vs, wipeA a5 vs, L2.wipe σ vs, H5⟩) s5
                      have stF := st3'.trans (st4.trans (st5.trans s5))
                      refine ⟨e4, wipeA a5 vs, acc ++ [u], done ++ [y], zs', w5.upd_apart (.inr rfl) hD5 (fun _ z => nomatch z) (fun _ z => nomatch z) (fun _ z => nomatch z), ?_, upd_same, ra6.upd_apart (.inr rfl), by simp; omega, hl, by rw [← hys]; simp⟩
                      exact ⟨stF.ln, fun b o q n t => by show upd H5 Dp _ b = some o; rw [upd_ne (ne_of_none (show H1 b = some o from q) hD)]; exact stF.ext b o q n t, stF.new, stF.kp⟩
        · have e0 : i = xs.length := by omega
          subst e0
          rw [List.drop_length] at hlc
          unfold lcR at hlc
          cases hlc
          refine .inl ⟨w.2 (Nat.le_refl _), ?_⟩
          have hk := ER.restore er1 no erk (fun p z => .inl z) w1x w1a fun i sv hi q o => (stk.kp i sv ⟨hi.1, by show i < (wipeE e1 vs).length; rw [wipeE_length]; exact hi.2⟩ q o).2
          refine h ak H' hk.1 hk.2 _ ?_
          have hys : done ++ [] = ys := hys
          rw [List.append_nil] at hys
          subst hys
          refine .lst (.inl hDk) (fun z => ?_) (by rw [ra.length]; omega) (ra.mono fun p z => z.imp .inl id)
          rcases z with z | ⟨i, z⟩
          · exact er1.trn _ z hD
          · exact erk.n0 i _ z (.inr rfl)
theorem de_lc {js : List Nat} (hjs : ∀ j ∈ js, j ∈ own.map (·.2)) (hc : X.calm = true) (hN : X.N.Nodup) (hi : PI X tg iter (tI c W FI)) (ok : BlkOk X.N X.env.scope scope own)
    (hg : ∀ (s : Shared) (H : Hp) (C : Addr) (cl : List (Str × Addr)) (fp : List Addr), PG (X.blk s H scope (compEnvC scope cl C X.env) fp) tg (tG c js g)) (ht : ∀ (s : Shared) (H : Hp) (C : Addr) (cl : List (Str × Addr)) (fp : List Addr), PTs (X.blk s H scope (compEnvC scope cl C X.env) fp) ifs (tTs c T))
    (he : ∀ (s : Shared) (H : Hp) (C : Addr) (cl : List (Str × Addr)) (fp : List Addr), PE (X.blk s H scope (compEnvC scope cl C X.env) fp) elt (tD c WF F)) (hs : ∀ x, foldedSetIterable iter X.env x = pure x := by intro _; rfl) :
    PE X (.ListComp elt [⟨tg, iter, ifs, 0⟩] scope pos) (tD c W (eLc FI (own.map (·.2)) g T F)) :=
  PE.imp (pe_lc hc hN hi ok hg ht he hs) fun σ H Q h => lc_imp c W FI _ g js T F σ H Q hjs h
/-- name = [..] on one line -/
theorem ds_setLc {js : List Nat} {i : Nat} {y : Str} {py spos : Pos} (hjs : ∀ j ∈ js, j ∈ own.map (·.2)) (hc : X.calm = true) (hN : X.N.Nodup) (hy : X.N[i]? = some y) (hyl : X.env.scope.names.lookup y = some .local)
    (hsw : swapsWith (.ListComp elt [⟨tg, iter, ifs, 0⟩] scope pos) (some (.Name y py)) spos.line X.env = pure true) (hi : PI X tg iter (tI c W FI)) (ok : BlkOk X.N X.env.scope scope own)
    (hg : ∀ (s : Shared) (H : Hp) (C : Addr) (cl : List (Str × Addr)) (fp : List Addr), PG (X.blk s H scope (compEnvC scope cl C X.env) fp) tg (tG c js g)) (ht : ∀ (s : Shared) (H : Hp) (C : Addr) (cl : List (Str × Addr)) (fp : List Addr), PTs (X.blk s H scope (compEnvC scope cl C X.env) fp) ifs (tTs c T))
    (he : ∀ (s : Shared) (H : Hp) (C : Addr) (cl : List (Str × Addr)) (fp : List Addr), PE (X.blk s H scope (compEnvC scope cl C X.env) fp) elt (tD c WF F)) (hs : ∀ x, foldedSetIterable iter X.env x = pure x := by intro _; rfl) :
    PS X (.Assign [.Name y py] (.ListComp elt [⟨tg, iter, ifs, 0⟩] scope pos) spos) (tS c W (sSt (gN i) (eLc FI (own.map (·.2)) g T F))) := by
  refine PS.imp (ps_setLc hc hN hy hyl hsw hi ok hg ht he hs) fun D σ H h => ?_
  obtain ⟨N0, e, a, er, h⟩ := h
  refine lc_imp c W FI _ g js T F σ H _ hjs (sbindD er h fun x e1 a1 H1 v er1 st rx h => ?_)
  have q := er1.set_d (j := i) rx
  exact h _ _ H1 q.1 q.2
end
end VL

set_option Elab.async false
set_option autoImplicit false
set_option linter.all false
set_option maxRecDepth 100000
set_option maxHeartbeats 4000000
/-! VL5: defs as functions of what their parameters hold; calls. -/
namespace VL
open PySem PySem.Spec PyProof.Rows L2

/-! ### semantics -/
def outs (n : Nat) (e : Env) : Env := (e.take n).map fun sv => if sv.own = true then sv else .unset
/-- a def: its number of slots, its body -/
def callS (nn : Nat) (G : Sm) : Md SV := fun svs => match G (svs ++ List.replicate (nn - svs.length) .unset) with
  | .nx e => .ok (.d .none) (outs svs.length e)
  | .rt v e => .ok v (outs svs.length e)
  | .err c fs e => .err c fs (outs svs.length e)
  | _ => .stuck
/-- an argument: an own thing lent, or plain data -/
inductive AV where
  | ln (i : Nat)
  | vl (x : D)
def aaN : Md (List AV) := fun e => .ok [] e
def aaV (m : Md D) (l : Md (List AV)) : Md (List AV) := bnd m fun x => bnd l fun xs e => .ok (.vl x :: xs) e
def aaL (i : Nat) (l : Md (List AV)) : Md (List AV) := fun e0 => if (e0.getD i .unset).own = true then bnd l (fun xs e => if (e.getD i .unset).own = true then .ok (.ln i :: xs) e else .stuck) e0 else .stuck
def svOf (e : Env) : AV → SV
  | .ln i => e.getD i .unset
  | .vl x => .d x
def isLn (i : Nat) : AV → Bool
  | .ln j => i == j
  | .vl _ => false
def lnOk : List AV → Bool
  | [] => true
  | .ln i :: r => !r.any (isLn i) && lnOk r
  | .vl _ :: r => lnOk r
def wb : List AV → List SV → Env → Env
  | .ln i :: r, sv :: svs, e => wb r svs (e.set i (if sv.own = true then sv else .unset))
  | .vl _ :: r, _ :: svs, e => wb r svs e
  | _, _, e => e
def oCall (f : Md SV) (dds : List D) (A : Md (List AV)) : Md SV := bnd A fun as e1 => if lnOk as = true then match f (as.map (svOf e1) ++ dds.map SV.d) with
  | .ok r svs => .ok r (wb as svs e1)
  | .err c fs svs => .err c fs (wb as svs e1)
  | .stuck => .stuck else .stuck
def oToD (m : Md SV) : Md D := fun e => match m e with
  | .ok (.d x) e1 => .ok x e1
  | .ok _ _ => .stuck
  | .err c fs e1 => .err c fs e1
  | .stuck => .stuck
/-! ### the promise -/
def spV (K : PySem.W.Frag) (CT : Str → Option Addr) (tt : List (Addr × Str)) (n : Nat) (f : Md SV) : Sp := fun vs H Q E => vs.length = n ∧ ∃ N0 svs a, ER (cfg K CT tt n) N0 ⟨svs, a, vs.map some, H⟩ ∧ match f svs with
  | .ok r svs' => svs'.length = n → ∀ a' H' v, ER (cfg K CT tt n) N0 ⟨svs' ++ [r], a', vs.map some ++ [some v], H'⟩ → Stp (cfg K CT tt n) ⟨svs, a, vs.map some, H⟩ ⟨svs' ++ [r], a', vs.map some ++ [some v], H'⟩ → Q v H'
  | .err cn fs svs' => svs'.length = n → ∀ a' H' C dd fvs, ER (cfg K CT tt n) N0 ⟨svs', a', vs.map some, H'⟩ → Stp (cfg K CT tt n) ⟨svs, a, vs.map some, H⟩ ⟨svs', a', vs.map some, H'⟩ → CT cn = some C → H' dd = some (.xd fvs) → Fr K (NN N0 a') H' fvs fs → ¬ NN N0 a' dd → E (.ref C) (some dd) H'
  | .stuck => False

section
variable {c : Cfg} {N0 : Addr → Prop}
theorem ER.pad {e : Env} {a : Nat → List Addr} {σ : L2.St} {H : Hp} (m : Nat) (h : ER c N0 ⟨e, a, σ, H⟩) : ER c N0 ⟨e ++ List.replicate m .unset, a, σ ++ List.replicate m none, H⟩ := by
  have hl : σ.length = e.length := h.len
  have key : ∀ i sv, (e ++ List.replicate m SV.unset)[i]? = some sv → (i < e.length ∧ e[i]? = some sv) ∨ (e.length ≤ i ∧ sv = .unset) := fun i sv q => by
    by_cases hi : i < e.length
    · rw [List.getElem?_append_left hi] at q; exact .inl ⟨hi, q⟩
    · rw [List.getElem?_append_right (by omega), List.getElem?_replicate] at q
      split at q
      · cases q; exact .inr ⟨by omega, rfl⟩
      · cases q
  refine ⟨by show (σ ++ List.replicate m none).length = (e ++ List.replicate m SV.unset).length; simp [hl], fun i sv q => ?_, fun i q => ?_, h.nd, h.dj, h.n0, h.tr, h.tb⟩
  · rcases key i sv q with ⟨hi, q⟩ | ⟨hi, q⟩
    · rcases h.slot i sv q with z | ⟨v, e1, r⟩
      · exact .inl z
      · exact .inr ⟨v, by show (σ ++ List.replicate m none)[i]? = _; rw [List.getElem?_append_left (by omega)]; exact e1, r⟩
    · exact .inl q
  · refine h.zero i ?_
    show e[i]? = none ∨ e[i]? = some .unset
    by_cases hi : i < e.length
    · have q : (e ++ List.replicate m SV.unset)[i]? = none ∨ (e ++ List.replicate m SV.unset)[i]? = some .unset := q
      rw [List.getElem?_append_left hi] at q
      exact q
    · exact .inl (List.getElem?_eq_none (by omega))
theorem outs_get {n : Nat} {e : Env} {i : Nat} {sv : SV} (h : (outs n e)[i]? = some sv) : i < n ∧ ∃ su, e[i]? = some su ∧ ((su.own = true ∧ sv = su) ∨ (su.own = false ∧ sv = .unset)) := by
  unfold outs at h
  rw [List.getElem?_map] at h
  cases q : (e.take n)[i]? with
  | none => rw [q] at h; cases h
  | some su =>
    rw [q] at h
    have hlt := (List.getElem?_eq_some_iff.mp q).1
    rw [List.length_take] at hlt
    have hi : i < n := by omega
    rw [List.getElem?_take_of_lt hi] at q
    refine ⟨hi, su, q, ?_⟩
    have h : some (if su.own = true then su else SV.unset) = some sv := h
    cases ho : su.own with
    | true => rw [ho, if_pos rfl] at h; exact .inl ⟨rfl, (Option.some.inj h).symm⟩
    | false => rw [ho, if_neg Bool.false_ne_true] at h; exact .inr ⟨rfl, (Option.some.inj h).symm⟩
theorem outs_len {n : Nat} {e : Env} (h : n ≤ e.length) : (outs n e).length = n := by
  unfold outs; rw [List.length_map, List.length_take]; omega
/-- what a body leaves, told of the parameters alone -/
theorem ER.back {n m : Nat} (hn : c.np = n) {svs e' : Env} {a a' : Nat → List Addr} {ws : L2.St} {s' : L2.St} {H H' : Hp} {r : SV} {v : V} (hl : svs.length = n) (hw : ws.length = n)
    (h : ER c N0 ⟨e' ++ [r], a', s' ++ [some v], H'⟩) (st : Stp c ⟨svs ++ List.replicate m .unset, a, ws ++ List.replicate m none, H⟩ ⟨e' ++ [r], a', s' ++ [some v], H'⟩) (he : n ≤ e'.length) :
    ∃ a'', ER c N0 ⟨outs n e' ++ [r], a'', ws ++ [some v], H'⟩ ∧ Stp c ⟨svs, a, ws, H⟩ ⟨outs n e' ++ [r], a'', ws ++ [some v], H'⟩ ∧ ∀ p, NN N0 a'' p → NN N0 a' p := by
  have hs : s'.length = e'.length := by have q : (s' ++ [some v]).length = (e' ++ [r]).length := h.len; simpa using q
  have ol := outs_len he
  -- what stands where
  have kp : ∀ i su, i < n → e'[i]? = some su → su.own = true → s'[i]? = ws[i]? ∧ ∃ sw, svs[i]? = some sw ∧ sw.own = true := fun i su hi q o => by
    obtain ⟨k1, sw, k2, k3⟩ := st.kp i su ⟨by rw [hn]; exact hi, by show i < (svs ++ List.replicate m SV.unset).length; simp; omega⟩ (by show (e' ++ [r])[i]? = _; rw [List.getElem?_append_left (by omega)]; exact q) o
    have k1 : (s' ++ [some v])[i]? = (ws ++ List.replicate m none)[i]? := k1
    have k2 : (svs ++ List.replicate m SV.unset)[i]? = some sw := k2
    rw [List.getElem?_append_left (by omega), List.getElem?_append_left (by omega)] at k1
    rw [List.getElem?_append_left (by omega)] at k2
    exact ⟨k1, sw, k2, k3⟩
  have sl : ∀ i sv, (e' ++ [r])[i]? = some sv → sv = .unset ∨ ∃ u, (s' ++ [some v])[i]? = some (some u) ∧ Sr c (NN N0 a') H' u sv (a' i) := h.slot
  refine ⟨fun i => if i < n then (if ((e'.getD i .unset).own = true) then a' i else []) else if i = n then a' e'.length else [], ?_, ?_, ?_⟩
  all_goals
    have at_ : ∀ i p, p ∈ (if i < n then (if ((e'.getD i SV.unset).own = true) then a' i else []) else if i = n then a' e'.length else []) → (i < n ∧ p ∈ a' i) ∨ (i = n ∧ p ∈ a' e'.length) := fun i p hp => by
      by_cases h1 : i < n
      · rw [if_pos h1] at hp
        split at hp
        · exact .inl ⟨h1, hp⟩
        · cases hp
      · rw [if_neg h1] at hp
        by_cases h2 : i = n
        · rw [if_pos h2] at hp; exact .inr ⟨h2, hp⟩
        · rw [if_neg h2] at hp; cases hp
    have ex : ∀ i p, p ∈ (if i < n then (if ((e'.getD i SV.unset).own = true) then a' i else []) else if i = n then a' e'.length else []) → ∃ k, p ∈ a' k := fun i p hp => (at_ i p hp).elim (fun z => ⟨_, z.2⟩) fun z => ⟨_, z.2⟩
    have key : ∀ i sv, (outs n e' ++ [r])[i]? = some sv → (i < n ∧ ∃ su, e'[i]? = some su ∧ ((su.own = true ∧ sv = su) ∨ (su.own = false ∧ sv = .unset))) ∨ (i = n ∧ sv = r) := fun i sv q => by
      by_cases hi : i < n
      · rw [List.getElem?_append_left (by rw [ol]; exact hi)] at q
        exact .inl ⟨hi, (outs_get q).2⟩
      · rw [List.getElem?_append_right (by rw [ol]; omega), ol] at q
        have hlt := (List.getElem?_eq_some_iff.mp q).1
        have e0 : i - n = 0 := by simpa using hlt
        rw [e0] at q
        cases q
        exact .inr ⟨by omega, rfl⟩
  · have nn : ∀ p, NN N0 (fun i => if i < n then (if ((e'.getD i SV.unset).own = true) then a' i else []) else if i = n then a' e'.length else []) p → NN N0 a' p := fun p hp => hp.elim .inl fun ⟨i, z⟩ => .inr (ex i p z)
    refine ⟨by show (ws ++ [some v]).length = (outs n e' ++ [r]).length; simp [ol, hw], fun i sv q => ?_, fun i q => ?_, fun i => ?_, fun i k p h1 h2 => ?_, fun i p h1 => ?_, h.tr, h.tb⟩
    · rcases key i sv q with ⟨hi, su, q1, ⟨o, z⟩ | ⟨o, z⟩⟩ | ⟨hi, z⟩
      · subst z
        obtain ⟨k1, _⟩ := kp i sv hi q1 o
        rcases sl i sv (by rw [List.getElem?_append_left (by omega)]; exact q1) with z | ⟨u, e1, s1⟩
        · exact .inl z
        · rw [List.getElem?_append_left (by omega)] at e1
          refine .inr ⟨u, by show (ws ++ [some v])[i]? = _; rw [List.getElem?_append_left (by omega), ← k1]; exact e1, ?_⟩
          show Sr c _ H' u sv (if i < n then (if ((e'.getD i SV.unset).own = true) then a' i else []) else if i = n then a' e'.length else [])
          rw [if_pos hi, if_pos (by rw [List.getD_eq_getElem?_getD, q1]; exact o)]
          exact s1.move (O := fun _ => False) (fun b o q _ _ => q) (fun _ z => z.elim) (fun p z => .inl (nn p z)) fun _ _ z => z
      · exact .inl z
      · subst z
        subst hi
        rcases sl e'.length sv (by simp) with z | ⟨u, e1, s1⟩
        · exact .inl z
        · rw [← hs] at e1
          simp at e1
          subst e1
          refine .inr ⟨v, by show (ws ++ [some v])[i]? = _; rw [← hw]; simp, ?_⟩
          show Sr c _ H' v sv (if i < i then (if ((e'.getD i SV.unset).own = true) then a' i else []) else if i = i then a' e'.length else [])
          rw [if_neg (Nat.lt_irrefl _), if_pos rfl]
          exact s1.move (O := fun _ => False) (fun b o q _ _ => q) (fun _ z => z.elim) (fun p z => .inl (nn p z)) fun _ _ z => z
    · have q : (outs n e' ++ [r])[i]? = none ∨ (outs n e' ++ [r])[i]? = some .unset := q
      show (if i < n then (if ((e'.getD i SV.unset).own = true) then a' i else []) else if i = n then a' e'.length else []) = []
      by_cases hi : i < n
      · rw [if_pos hi]
        split
        · rename_i ho
          rcases q with q | q
          · have := List.getElem?_eq_none_iff.mp q
            simp [ol] at this
            omega
          · rcases key i _ q with ⟨_, su, q1, ⟨o, z⟩ | ⟨o, z⟩⟩ | ⟨hi2, _⟩
            · subst z; cases o
            · rw [List.getD_eq_getElem?_getD, q1] at ho
              rw [show (some su).getD SV.unset = su from rfl, o] at ho
              cases ho
            · omega
        · rfl
      · rw [if_neg hi]
        split
        · rename_i hi2
          rcases q with q | q
          · have := List.getElem?_eq_none_iff.mp q
            simp [ol] at this
            omega
          · rcases key i _ q with ⟨h3, _⟩ | ⟨_, z⟩
            · omega
            · refine h.zero e'.length (.inr ?_)
              show (e' ++ [r])[e'.length]? = _
              rw [← z]; simp
        · rfl
    · show (if i < n then (if ((e'.getD i SV.unset).own = true) then a' i else []) else if i = n then a' e'.length else []).Nodup
      split
      · split
        · exact h.nd i
        · exact List.nodup_nil
      · split
        · exact h.nd _
        · exact List.nodup_nil
    · rcases at_ i p h1 with ⟨x1, m1⟩ | ⟨x1, m1⟩ <;> rcases at_ k p h2 with ⟨x2, m2⟩ | ⟨x2, m2⟩
      · exact h.dj _ _ p m1 m2
      · have := h.dj _ _ p m1 m2; omega
      · have := h.dj _ _ p m1 m2; omega
      · omega
    · obtain ⟨k, m⟩ := ex i p h1
      exact h.n0 k p m
  · refine ⟨by show svs.length ≤ (outs n e' ++ [r]).length; simp [ol]; omega, st.ext, fun i p m => ?_, fun i sv hi q o => ?_⟩
    · obtain ⟨k, z⟩ := ex i p m
      exact st.new k p z
    · rcases key i sv q with ⟨hi2, su, q1, ⟨o1, z⟩ | ⟨o1, z⟩⟩ | ⟨hi2, z⟩
      · subst z
        obtain ⟨k1, k2⟩ := kp i sv hi2 q1 o
        refine ⟨?_, k2⟩
        show (ws ++ [some v])[i]? = ws[i]?
        rw [List.getElem?_append_left (by omega)]
      · subst z; cases o
      · omega
  · exact fun p hp => hp.elim .inl fun ⟨i, z⟩ => .inr (ex i p z)
/-- .. behind an error -/
theorem ER.backE {n m : Nat} (hn : c.np = n) {svs e' : Env} {a a' : Nat → List Addr} {ws : L2.St} {s' : L2.St} {H H' : Hp} (hl : svs.length = n) (hw : ws.length = n)
    (h : ER c N0 ⟨e', a', s', H'⟩) (st : Stp c ⟨svs ++ List.replicate m .unset, a, ws ++ List.replicate m none, H⟩ ⟨e', a', s', H'⟩) :
    ∃ a'', ER c N0 ⟨outs n e', a'', ws, H'⟩ ∧ Stp c ⟨svs, a, ws, H⟩ ⟨outs n e', a'', ws, H'⟩ ∧ ∀ p, NN N0 a'' p → NN N0 a' p := by
  have he : n ≤ e'.length := by
    have q : (svs ++ List.replicate m SV.unset).length ≤ e'.length := st.ln
    simp at q; omega
  have k := h.push_d (v := .non) (x := .none) .non
  obtain ⟨a'', er, st2, nn⟩ := ER.back hn hl hw k.1 (k.2 _ st) he
  obtain ⟨d1, d2⟩ := er.drop
  refine ⟨_, d1, d2 _ (by rw [outs_len he]; show svs.length ≤ n; omega) st2, fun p hp => nn p (hp.elim .inl fun ⟨i, z⟩ => .inr ⟨i, (fup_nil z).1⟩)⟩
theorem outs_app {n : Nat} {e : Env} {r : SV} (h : n ≤ e.length) : outs n (e ++ [r]) = outs n e := by
  unfold outs
  rw [List.take_append_of_le_length h]
end

/-! ### a def keeps its promise -/
section
variable {P : Program} {w : World} {K : PySem.W.Frag} {mg : Str → Option Value} {base : Heap} {x qual : Str} {params : Arguments} {body : List Stmt} {scope : Scope} {dvs : List V} {kws : List (Str × V)} {f : Addr} {fd : FuncData} {CT : Str → Option Addr} {tt : List (Addr × Str)}
abbrev WE (E : XK) : WX := fun cls d _ H => E cls d H
theorem Fr.mono {N N' : Addr → Prop} {H : Hp} {fvs : List (Str × V)} {fs : List (Str × D)} (h : Fr K N H fvs fs) (s : ∀ p, N' p → N p) : Fr K N' H fvs fs := fun n x e => by
  obtain ⟨v, e1, r⟩ := h n x e
  exact ⟨v, e1, r.mono s⟩
/-- the body's reading from the promise -/
theorem spV_body {N : List Str} {n : Nat} {G : Sm} {vs : List V} {H : Hp} {Q : VK} {E : XK} (hn : n ≤ N.length) (h : spV K CT tt n (callS N.length G) vs H Q E) : tS (cfg K CT tt n) (WE E) G { nx := fun _ H' => Q .non H', rt := Q } (L2.start N vs) H := by
  obtain ⟨hv, N0, svs, a, er, h⟩ := h
  have hl : svs.length = n := by
    have q : (vs.map some).length = svs.length := er.len
    simp at q; omega
  have hst : L2.start N vs = vs.map some ++ List.replicate (N.length - svs.length) none := by unfold L2.start; rw [hv, hl]
  refine ⟨N0, svs ++ List.replicate (N.length - svs.length) .unset, a, by rw [hst]; exact er.pad _, ?_⟩
  rw [hst]
  unfold callS at h
  revert h
  generalize G (svs ++ List.replicate (N.length - svs.length) .unset) = r
  have hw : (vs.map some).length = n := by simp [hv]
  cases r with
  | stuck => exact fun h => h
  | bk e => exact fun h => h.elim
  | ct e => exact fun h => h.elim
  | nx e' =>
    intro h a' s' H' er' st
    have he : n ≤ e'.length := by
      have q : (svs ++ List.replicate (N.length - svs.length) SV.unset).length ≤ e'.length := st.ln
      simp at q; omega
    have k := er'.push_d (v := .non) (x := .none) .non
    obtain ⟨a'', b1, b2, _⟩ := ER.back rfl hl hw k.1 (k.2 _ st) he
    rw [hl] at h
    exact h (outs_len he) a'' H' .non b1 b2
  | rt v e' =>
    intro h a' s' H' u er' st hle
    have he : n ≤ e'.length := by
      have q : (svs ++ List.replicate (N.length - svs.length) SV.unset).length ≤ e'.length := hle
      simp at q; omega
    obtain ⟨a'', b1, b2, _⟩ := ER.back rfl hl hw er' st he
    rw [hl] at h
    exact h (outs_len he) a'' H' u b1 b2
  | err cn fs e' =>
    intro h a' s' H' C dd fvs er' st hC hd hF hnn
    have he : n ≤ e'.length := by
      have q : (svs ++ List.replicate (N.length - svs.length) SV.unset).length ≤ e'.length := st.ln
      simp at q; omega
    obtain ⟨a'', b1, b2, nn⟩ := ER.backE rfl hl hw er' st
    rw [hl] at h
    exact h (outs_len he) a'' H' C dd fvs b1 b2 hC hd (hF.mono nn) (fun z => hnn (nn _ z))
/-- room, and (gb) no repr is under way -/
structure Rm (gb : Bool) (k : Nat) (A : Around) : Prop where
  r : Room k A
  g : gb = true → A.guards = some []
theorem Rm.mono {gb : Bool} {j k : Nat} {A : Around} (r : Rm gb k A) (h : j ≤ k) : Rm gb j A := ⟨r.r.mono h, r.g⟩
theorem Rm.low {gb : Bool} {k : Nat} {A : Around} (r : Rm gb k A) : Rm false k A := ⟨r.r, fun z => nomatch z⟩
/-- a def keeps its promise (gb: where no repr is under way) -/
structure FnV (P : Program) (w : World) (K : PySem.W.Frag) (mg : Str → Option Value) (base : Heap) (CX : CXT) (gb : Bool) (k : Nat) (f : Addr) (fd : FuncData) (ps : List Str) (sp : Sp) : Prop where
  len : ∀ vs H Q E, sp vs H Q E → vs.length = ps.length
  run : ∀ (A : Around) (outer : List PySem.Env) (s : Shared) (H : Hp) (args : Args) (us : List Value) (vs : List V) (Q : VK) (E : XK), Rm gb k A → Env0 P w K mg base A outer s H → BindsTo s fd args (ps.zip us) → Vals vs us → sp vs H Q E →
    codeAny (model P w) A (.call (.ref f) args) (CR CX outer P w H s Q E) s
theorem FnV.mono {gb : Bool} {CX : CXT} {j k : Nat} {ps : List Str} {sp : Sp} (F : FnV P w K mg base CX gb j f fd ps sp) (h : j ≤ k) : FnV P w K mg base CX gb k f fd ps sp :=
  ⟨F.len, fun A outer s H args us vs Q E hr => F.run A outer s H args us vs Q E (hr.mono h)⟩
theorem run_fnV {X : Cx} {gb : Bool} {CX : CXT} {k : Nat} {f : Addr} {fd : FuncData} {ps : List Str} {sp : Sp} {dvs : List V} {ds : List Value} {E : L2.St → XK} {pins : List (Addr × Obj)} {σ : L2.St} {H : Hp} {s : Shared} {Q : VK} {us : List Value} {vs : List V} (F : FnV X.prog X.w X.K X.mg X.base CX gb k f fd ps sp) (hr : Rm gb k X.A)
    (hb : Binds X.K fd ps ds) (hd : Vals dvs ds) (hx : PassesAt CX X σ (E σ)) (I : Inv X pins σ H s) (r : Vals vs us) (h : sp (vs ++ dvs) H Q (E σ)) : wpAny (model X.prog X.w) X.A (call (.ref f) us) (EP X pins σ Q) X.xe s := by
  have r2 : Vals (vs ++ dvs) (us ++ ds) := r.append hd
  have hl : (us ++ ds).length = ps.length := by rw [← r2.length]; exact F.len _ _ _ _ h
  refine wpAny_call (codeAny_mono (F.run X.A X.stack s H ⟨us, []⟩ (us ++ ds) (vs ++ dvs) Q (E σ) hr I.env0 (hb s us I.kIn hl) r2 h) fun r s' hq => ?_)
  cases r with
  | error e => exact hx pins H s e s' I hq
  | ok fl =>
    cases fl with
    | ret u => exact I.after hq
    | next => exact False.elim hq
    | brk => exact False.elim hq
    | cont => exact False.elim hq
/-- the code object of the function at f -/
def CodeOf (K : PySem.W.Frag) (f : Addr) (cdv : Value) : Prop := ∃ (oc : Value) (od : Option Addr) (fn : FuncData) (osl : Array (Option Value)), K.lookup f = some ⟨oc, od, .func fn, osl⟩ ∧ fn.code = cdv
theorem fn_okC {gb : Bool} {N ps : List Str} {k : Nat} {G : Sm} (F : FunD K x qual params body scope dvs kws f fd) (S : FnScope N ps scope)
    (hb : ∀ (cdv : Value), CodeOf K f cdv → ∀ (A : Around) (outer : List PySem.Env) (s : Shared) (H : Hp) (E : XK), Rm gb k (A.deeper (envOfC qual scope s.heap.objs.size f cdv)) → PassesOwn (model P w) (A.deeper (envOfC qual scope s.heap.objs.size f cdv)) (envOfC qual scope s.heap.objs.size f cdv) (cxOf (L2.CX P w) P w K mg base N qual scope f cdv A outer s H E).xe →
      Takes (cxOf (L2.CX P w) P w K mg base N qual scope f cdv A outer s H E) (WE E) → PSs (cxOf (L2.CX P w) P w K mg base N qual scope f cdv A outer s H E) body (tS (cfg K CT tt ps.length) (WE E) G)) : FnV P w K mg base (L2.CX P w) gb (k + 1) f fd ps (spV K CT tt ps.length (callS N.length G)) := by
  have hpl : ps.length ≤ N.length := by have := congrArg List.length S.pre; rw [List.length_take] at this; omega
  obtain ⟨oc, od, dV, kV, doc, pm, an, cdv, ct, osl, rfl, lk, hcd, _, _⟩ := F.ex
  refine ⟨fun vs H Q E h => h.1, fun A outer s H args us vs Q E hr e0 hbi r hsp => ?_⟩
  have hl : vs.length = ps.length := hsp.1
  have KX : K.In s.heap := e0.mod.kin.keeps fun b o e => (e0.bs b o e).1
  have lim : s.heap.NoLimit := e0.mod.nolimit.keeps fun b o e => (e0.bs b o e).1
  have hkind : ∀ y ∈ ps.zip us, scope.names.lookup y.1 = some .local ∨ (scope.names.lookup y.1 = some .cell ∧ ((cellsFrom (s.heap.objs.size + 1) scope.names []).lookup y.1).isSome = true) := fun ⟨n, v⟩ hy => by
    rcases S.par n (List.of_mem_zip hy).1 with q | q
    · exact .inl q
    · exact .inr ⟨q, PySem.W.cellsFrom_some _ _ _ (.inl q)⟩
  refine codeAny_call_function hr.r.depth (KX _ _ lk) rfl S.co S.gen rfl (PySem.W.codeRec_of KX hcd) (hbi _ _ _ _ ?_)
  refine wpAny_newFunctionEnv_cells S.kind hkind fun env he s1 x => ?_
  subst he
  refine ⟨lim.keeps x.toInCall.keep, codeAny_func ?_⟩
  have hb1 := hb cdv ⟨oc, od, _, osl, lk, rfl⟩ A outer s H E ⟨hr.r.deeper _, hr.g⟩ (passes_of rfl) (takes_of rfl rfl rfl rfl)
  have I : Inv (cxOf (L2.CX P w) P w K mg base N qual scope f cdv A outer s H E) [] (L2.start N vs) H s1 := inv_start S hr.r.hd e0 hl r x
  refine wpAny_mono (hb1.run [] s1 (L2.start N vs) H { nx := fun _ H' => Q .non H', rt := Q } I (spV_body hpl hsp)) (fun fl s' hs => ?_) fun e s' hs => hs
  have fin : ∀ {σ' : L2.St} {H' : Hp} {v : V} {u : Value}, Inv (cxOf (L2.CX P w) P w K mg base N qual scope f cdv A outer s H E) [] σ' H' s' → RelV v u → Q v H' → CE outer P w H s Q u s' :=
    fun {σ' H' v u} J rv q => ⟨v, H', J.os, J.bare, J.base, J.hok, rv, q⟩
  cases fl with
  | ret u =>
    obtain ⟨v, σ', H', J, rv, q⟩ := hs
    exact fin J rv q
  | next =>
    obtain ⟨σ', H', J, q⟩ := hs
    exact fin (v := V.non) (u := Value.none) J rfl q
  | brk =>
    obtain ⟨_, _, _, q⟩ := hs
    exact False.elim q
  | cont =>
    obtain ⟨_, _, _, q⟩ := hs
    exact False.elim q
theorem fn_ok {gb : Bool} {N ps : List Str} {k : Nat} {G : Sm} (F : FunD K x qual params body scope dvs kws f fd) (S : FnScope N ps scope)
    (hb : ∀ (cdv : Value) (A : Around) (outer : List PySem.Env) (s : Shared) (H : Hp) (E : XK), Rm gb k (A.deeper (envOfC qual scope s.heap.objs.size f cdv)) → PassesOwn (model P w) (A.deeper (envOfC qual scope s.heap.objs.size f cdv)) (envOfC qual scope s.heap.objs.size f cdv) (cxOf (L2.CX P w) P w K mg base N qual scope f cdv A outer s H E).xe →
      Takes (cxOf (L2.CX P w) P w K mg base N qual scope f cdv A outer s H E) (WE E) → PSs (cxOf (L2.CX P w) P w K mg base N qual scope f cdv A outer s H E) body (tS (cfg K CT tt ps.length) (WE E) G)) : FnV P w K mg base (L2.CX P w) gb (k + 1) f fd ps (spV K CT tt ps.length (callS N.length G)) :=
  fn_okC F S fun cdv _ => hb cdv
end
end VL

set_option Elab.async false
set_option autoImplicit false
set_option linter.all false
set_option maxRecDepth 100000
set_option maxHeartbeats 4000000
/-! VL6: calls of defs. -/
namespace VL
open PySem PySem.Spec PyProof.Rows L2

/-- an argument's value -/
def AvR (c : Cfg) (N0 : Addr → Prop) (S : Sx) (v : V) : AV → Prop
  | .ln i => S.s[i]? = some (some v) ∧ (S.e.getD i .unset).own = true
  | .vl x => Rp c.K (NN N0 S.a) S.h v x
inductive AvRs (c : Cfg) (N0 : Addr → Prop) (S : Sx) : List V → List AV → Prop
  | nil : AvRs c N0 S [] []
  | cons {v : V} {vs : List V} {x : AV} {xs : List AV} : AvR c N0 S v x → AvRs c N0 S vs xs → AvRs c N0 S (v :: vs) (x :: xs)
section
variable {c : Cfg} {N0 : Addr → Prop} {S S' : Sx}
theorem AvRs.length : ∀ {vs : List V} {xs : List AV}, AvRs c N0 S vs xs → vs.length = xs.length
  | _, _, .nil => rfl
  | _, _, .cons _ t => by simp [AvRs.length t]
theorem AvRs.get : ∀ {vs : List V} {xs : List AV}, AvRs c N0 S vs xs → ∀ {i : Nat} {x : AV}, xs[i]? = some x → ∃ v, vs[i]? = some v ∧ AvR c N0 S v x
  | _, _, .nil, i, x, e => by simp at e
  | _, _, .cons h t, 0, x, e => by simp at e; subst e; exact ⟨_, rfl, h⟩
  | _, _, .cons h t, i + 1, x, e => by
    obtain ⟨v, q, r⟩ := AvRs.get t (i := i) (x := x) (by simpa using e)
    exact ⟨v, by simpa using q, r⟩
def PostA (c : Cfg) (W : WX) (N0 : Addr → Prop) (S : Sx) (r : Res (List AV)) (Q : List V → Hp → Prop) : Prop := match r with
  | .ok xs e' => ∀ a' H' vs, ER c N0 ⟨e', a', S.s, H'⟩ → Stp c S ⟨e', a', S.s, H'⟩ → AvRs c N0 ⟨e', a', S.s, H'⟩ vs xs → Q vs H'
  | .err cn fs e' => PErrX c W N0 S cn fs e'
  | .stuck => False
theorem PostA.from {W : WX} {r : Res (List AV)} {Q : List V → Hp → Prop} (h : PostA c W N0 S r Q) (p : Stp c S S') (hs : S'.s = S.s) : PostA c W N0 S' r Q := by
  cases r with
  | ok xs e' =>
    intro a' H' vs er st
    rw [hs] at er st
    rw [hs]
    exact h a' H' vs er (p.trans st)
  | err cn fs e' => exact PErrX.from (show PErrX c W N0 S cn fs e' from h) p hs
  | stuck => exact h
end
def tA (c : Cfg) (W : WX) (F : Md (List AV)) : TA := fun σ H Q => ∃ N0 e a, ER c N0 ⟨e, a, σ, H⟩ ∧ PostA c W N0 ⟨e, a, σ, H⟩ (F e) Q
section
variable {X : Cx} {c : Cfg} {W : WX} {e : Expr} {es : List Expr} {pos : Pos} {F : Md D} {FA : Md (List AV)} {FO f : Md SV}
theorem daa_nil : PA X [] (tA c W aaN) := by
  refine PA.imp pa_nil fun σ H Q h => ?_
  obtain ⟨N0, e, a, er, h⟩ := h
  exact h a H [] er (Stp.refl _) .nil
theorem abindD {N0 : Addr → Prop} {e : Env} {a : Nat → List Addr} {σ : L2.St} {H : Hp} {F : Md D} {k : D → Md (List AV)} {P : List V → Hp → Prop} {R : VK} (er : ER c N0 ⟨e, a, σ, H⟩) (h : PostA c W N0 ⟨e, a, σ, H⟩ (bnd F k e) P)
    (g : ∀ x e1 a1 H1 v, ER c N0 ⟨e1, a1, σ, H1⟩ → Stp c ⟨e, a, σ, H⟩ ⟨e1, a1, σ, H1⟩ → Rp c.K (NN N0 a1) H1 v x → PostA c W N0 ⟨e1, a1, σ, H1⟩ (k x e1) P → R v H1) : tD c W F σ H R := by
  refine ⟨N0, e, a, er, ?_⟩
  unfold bnd at h
  revert h
  generalize F e = r
  cases r with
  | ok x e1 => exact fun h a1 H1 er1 st v rv => g x e1 a1 H1 v er1 st rv (PostA.from h st rfl)
  | err cn fs e1 => exact fun h => h
  | stuck => exact fun h => h
theorem abindA {N0 : Addr → Prop} {e : Env} {a : Nat → List Addr} {σ : L2.St} {H : Hp} {F : Md (List AV)} {k : List AV → Md (List AV)} {P : List V → Hp → Prop} {R : List V → Hp → Prop} (er : ER c N0 ⟨e, a, σ, H⟩) (h : PostA c W N0 ⟨e, a, σ, H⟩ (bnd F k e) P)
    (g : ∀ x e1 a1 H1 v, ER c N0 ⟨e1, a1, σ, H1⟩ → Stp c ⟨e, a, σ, H⟩ ⟨e1, a1, σ, H1⟩ → AvRs c N0 ⟨e1, a1, σ, H1⟩ v x → PostA c W N0 ⟨e1, a1, σ, H1⟩ (k x e1) P → R v H1) : tA c W F σ H R := by
  refine ⟨N0, e, a, er, ?_⟩
  unfold bnd at h
  revert h
  generalize F e = r
  cases r with
  | ok x e1 => exact fun h a1 H1 v er1 st rv => g x e1 a1 H1 v er1 st rv (PostA.from h st rfl)
  | err cn fs e1 => exact fun h => h
  | stuck => exact fun h => h
theorem daa_val (he : PE X e (tD c W F)) (hl : PA X es (tA c W FA)) (hs : starEach (e :: es) X.env = (false, eval e X.env) :: starEach es X.env := by rfl) : PA X (e :: es) (tA c W (aaV F FA)) := by
  refine PA.imp (pa_cons he hl hs) fun σ H Q h => ?_
  obtain ⟨N0, e, a, er, h⟩ := h
  refine abindD er h fun x e1 a1 H1 v er1 st1 rx h => ?_
  refine abindA er1 h fun xs e2 a2 H2 vs er2 st2 rxs h => ?_
  exact h a2 H2 (v :: vs) er2 (Stp.refl _) (.cons (show AvR c N0 ⟨e2, a2, σ, H2⟩ v (.vl x) from rx.step (S := ⟨e1, a1, σ, H1⟩) (S' := ⟨e2, a2, σ, H2⟩) st2) rxs)
theorem ER.own_v {N0 : Addr → Prop} {S : Sx} {i : Nat} (er : ER c N0 S) (ho : (S.e.getD i .unset).own = true) : ∃ sv v, S.e[i]? = some sv ∧ sv.own = true ∧ S.s[i]? = some (some v) ∧ Sr c (NN N0 S.a) S.h v sv (S.a i) := by
  cases q : S.e[i]? with
  | none => rw [List.getD_eq_getElem?_getD, q] at ho; cases ho
  | some sv =>
    rw [List.getD_eq_getElem?_getD, q] at ho
    have ho : sv.own = true := ho
    rcases er.slot i sv q with z | ⟨v, e1, r⟩
    · subst z; cases ho
    · exact ⟨sv, v, rfl, ho, e1, r⟩
/-- an own thing lent by its name -/
theorem daa_lend (i : Nat) {x : Str} (hN : X.N[i]? = some x) (hv : Vis X.env.scope x) (hl : PA X es (tA c W FA)) (hd : (x == ("__debug__" : Str)) = false := by decide +kernel) (hcd : (x == ("__classdict__" : Str)) = false := by decide +kernel)
    (hs : starEach (.Name x pos :: es) X.env = (false, eval (.Name x pos) X.env) :: starEach es X.env := by rfl) : PA X (.Name x pos :: es) (tA c W (aaL i FA)) := by
  refine PA.imp (pa_cons (pe_var (i := i) hN hv hd hcd) hl hs) fun σ H Q h => ?_
  obtain ⟨N0, e, a, er, h⟩ := h
  unfold aaL at h
  split at h
  · rename_i ho
    obtain ⟨sv, v, q1, q2, q3, q4⟩ := er.own_v ho
    refine ⟨v, q3, abindA er h fun xs e1 a1 H1 vs er1 st1 rxs h => ?_⟩
    split at h
    · rename_i ho1
      exact h a1 H1 (v :: vs) er1 (Stp.refl _) (.cons (show AvR c N0 ⟨e1, a1, σ, H1⟩ v (.ln i) from ⟨q3, ho1⟩) rxs)
    · exact h.elim
  · exact h.elim

/-! ### what is lent, and comes back -/
/-- the place at which slot i is lent -/
def lnAt : List AV → Nat → Option Nat
  | [], _ => none
  | .ln k :: r, i => if i = k then some 0 else (lnAt r i).map (· + 1)
  | .vl _ :: r, i => (lnAt r i).map (· + 1)
theorem lnAt_get : ∀ {as : List AV} {i j : Nat}, lnAt as i = some j → as[j]? = some (.ln i)
  | [], _, _, h => by cases h
  | .ln k :: r, i, j, h => by
    unfold lnAt at h
    split at h
    · rename_i e; cases h; subst e; rfl
    · cases q : lnAt r i with
      | none => rw [q] at h; cases h
      | some m => rw [q] at h; cases h; simpa using lnAt_get q
  | .vl _ :: r, i, j, h => by
    unfold lnAt at h
    cases q : lnAt r i with
    | none => rw [q] at h; cases h
    | some m => rw [q] at h; cases h; simpa using lnAt_get q
theorem isLn_any : ∀ {as : List AV} {i j : Nat}, as[j]? = some (.ln i) → as.any (isLn i) = true
  | [], _, _, h => by simp at h
  | a :: r, i, 0, h => by simp at h; subst h; simp [isLn]
  | a :: r, i, j + 1, h => by
    have := isLn_any (as := r) (i := i) (j := j) (by simpa using h)
    simp [this]
theorem lnAt_of : ∀ {as : List AV} {i j : Nat}, lnOk as = true → as[j]? = some (.ln i) → lnAt as i = some j
  | [], _, _, _, h => by simp at h
  | .ln k :: r, i, 0, _, h => by simp at h; subst h; unfold lnAt; rw [if_pos rfl]
  | .ln k :: r, i, j + 1, ok, h => by
    have ok : (!r.any (isLn k) && lnOk r) = true := ok
    rw [Bool.and_eq_true] at ok
    have h2 : r[j]? = some (.ln i) := by simpa using h
    have ne : i ≠ k := fun e => by
      have this := isLn_any (as := r) h2
      rw [e] at this
      rw [this] at ok
      exact absurd ok.1 (by decide)
    unfold lnAt
    rw [if_neg ne, lnAt_of ok.2 h] <;> rfl
  | .vl _ :: r, i, 0, _, h => by simp at h
  | .vl _ :: r, i, j + 1, ok, h => by
    unfold lnAt
    rw [lnAt_of (as := r) (i := i) (j := j) ok (by simpa using h)] <;> rfl
def outV (sv : SV) : SV := if sv.own = true then sv else .unset
theorem wb_len : ∀ (as : List AV) (svs : List SV) (e : Env), (wb as svs e).length = e.length
  | [], [], _ => rfl
  | [], _ :: _, _ => rfl
  | .ln i :: r, [], _ => rfl
  | .vl _ :: r, [], _ => rfl
  | .ln i :: r, sv :: svs, e => by unfold wb; rw [wb_len r svs]; simp
  | .vl _ :: r, _ :: svs, e => by unfold wb; exact wb_len r svs e
theorem wb_out : ∀ {as : List AV} {svs : List SV} {e : Env} {i : Nat}, lnAt as i = none → (wb as svs e)[i]? = e[i]?
  | [], [], _, _, _ => rfl
  | [], _ :: _, _, _, _ => rfl
  | .ln _ :: r, [], _, _, _ => rfl
  | .vl _ :: r, [], _, _, _ => rfl
  | .ln k :: r, sv :: svs, e, i, h => by
    unfold lnAt at h
    split at h
    · cases h
    · rename_i ne
      unfold wb
      rw [wb_out (by cases q : lnAt r i with | none => rfl | some m => rw [q] at h; cases h), List.getElem?_set_ne (Ne.symm ne)]
  | .vl _ :: r, _ :: svs, e, i, h => by
    unfold lnAt at h
    unfold wb
    exact wb_out (by cases q : lnAt r i with | none => rfl | some m => rw [q] at h; cases h)
theorem wb_in : ∀ {as : List AV} {svs : List SV} {e : Env} {i j : Nat}, lnOk as = true → lnAt as i = some j → i < e.length → j < svs.length → (wb as svs e)[i]? = some (outV (svs.getD j .unset))
  | [], _, _, _, _, _, h, _, _ => by cases h
  | .ln _ :: r, [], _, _, _, _, _, _, hj => by simp at hj
  | .vl _ :: r, [], _, _, _, _, _, _, hj => by simp at hj
  | .ln k :: r, sv :: svs, e, i, j, ok, h, hi, hj => by
    have ok : (!r.any (isLn k) && lnOk r) = true := ok
    rw [Bool.and_eq_true] at ok
    unfold lnAt at h
    unfold wb
    split at h
    · rename_i eq
      cases h
      subst eq
      have nn : lnAt r i = none := by
        cases q : lnAt r i with
        | none => rfl
        | some m =>
          have := isLn_any (lnAt_get q)
          rw [this] at ok
          exact absurd ok.1 (by decide)
      rw [wb_out nn, List.getElem?_set_self hi] <;> rfl
    · cases q : lnAt r i with
      | none => rw [q] at h; cases h
      | some m =>
        rw [q] at h
        cases h
        rw [wb_in ok.2 q (by simpa using hi) (by simpa using hj)]
        simp
  | .vl _ :: r, _ :: svs, e, i, j, ok, h, hi, hj => by
    unfold lnAt at h
    unfold wb
    cases q : lnAt r i with
    | none => rw [q] at h; cases h
    | some m =>
      rw [q] at h
      cases h
      rw [wb_in (as := r) ok q hi (by simpa using hj)]
      simp

/-- the callee's slots from the caller's, and back -/
theorem call_sp {K : PySem.W.Frag} {CT : Str → Option Addr} (hX : ∀ p d k, ¬ c.xp p d k) (hK : c.K = K) (hCT : c.CT = CT) {tt : List (Addr × Str)} (htt : c.tt = tt) {n : Nat} {N0 : Addr → Prop} {e1 : Env} {a1 : Nat → List Addr} {σ : L2.St} {H1 : Hp} {as : List AV} {vs dvs : List V} {dds : List D} {Q : VK} {E : XK} (hn : as.length + dds.length = n)
    (er : ER c N0 ⟨e1, a1, σ, H1⟩) (ra : AvRs c N0 ⟨e1, a1, σ, H1⟩ vs as) (rd : ∀ N H, Rps K N H dvs dds) (ok : lnOk as = true)
    (h : match f (as.map (svOf e1) ++ dds.map SV.d) with
      | .ok r svs => ∀ a' H' v, ER c N0 ⟨wb as svs e1 ++ [r], a', σ ++ [some v], H'⟩ → Stp c ⟨e1, a1, σ, H1⟩ ⟨wb as svs e1 ++ [r], a', σ ++ [some v], H'⟩ → Q v H'
      | .err cn fs svs => ∀ a' H' C dd fvs, ER c N0 ⟨wb as svs e1, a', σ, H'⟩ → Stp c ⟨e1, a1, σ, H1⟩ ⟨wb as svs e1, a', σ, H'⟩ → CT cn = some C → H' dd = some (.xd fvs) → Fr K (NN N0 a') H' fvs fs → ¬ NN N0 a' dd → E (.ref C) (some dd) H'
      | .stuck => False) : spV K CT tt n f (vs ++ dvs) H1 Q E := by
  subst hK hCT htt
  have hlen := ra.length
  have hdl := (rd (fun _ => False) H1).length
  have hsl : σ.length = e1.length := er.len
  -- the callee's state
  let svs := as.map (svOf e1) ++ dds.map SV.d
  let a' : Nat → List Addr := fun j => match as[j]? with
    | some (.ln i) => a1 i
    | _ => []
  let N1 : Addr → Prop := fun p => N0 p ∨ ∃ i, lnAt as i = none ∧ p ∈ a1 i
  have ha' : ∀ j p, p ∈ a' j → ∃ i, as[j]? = some (.ln i) ∧ p ∈ a1 i := fun j p hp => by
    have hp : p ∈ (match as[j]? with | some (.ln i) => a1 i | _ => []) := hp
    split at hp
    · rename_i i q; exact ⟨i, q, hp⟩
    · cases hp
  have ha2 : ∀ j i, as[j]? = some (.ln i) → a' j = a1 i := fun j i q => by
    show (match as[j]? with | some (.ln i) => a1 i | _ => []) = a1 i
    rw [q]
  have nn1 : ∀ p, NN N1 a' p → NN N0 a1 p := fun p hp => by
    rcases hp with (hp | ⟨i, _, m⟩) | ⟨j, m⟩
    · exact .inl hp
    · exact .inr ⟨i, m⟩
    · obtain ⟨i, _, m2⟩ := ha' j p m
      exact .inr ⟨i, m2⟩
  have nn2 : ∀ p, NN N0 a1 p → NN N1 a' p := fun p hp => by
    rcases hp with hp | ⟨i, m⟩
    · exact .inl (.inl hp)
    · cases q : lnAt as i with
      | none => exact .inl (.inr ⟨i, q, m⟩)
      | some j => exact .inr ⟨j, by rw [ha2 j i (lnAt_get q)]; exact m⟩
  have sget : ∀ j, svs[j]? = if j < as.length then (as[j]?).map (svOf e1) else (dds[j - as.length]?).map SV.d := fun j => by
    show (as.map (svOf e1) ++ dds.map SV.d)[j]? = _
    by_cases hj : j < as.length
    · rw [if_pos hj, List.getElem?_append_left (by simpa using hj), List.getElem?_map]
    · rw [if_neg hj, List.getElem?_append_right (by simpa using hj), List.getElem?_map]; simp
  have vget : ∀ j, ((vs ++ dvs).map some)[j]? = if j < as.length then (vs[j]?).map some else (dvs[j - as.length]?).map some := fun j => by
    rw [List.getElem?_map]
    by_cases hj : j < as.length
    · rw [if_pos hj, List.getElem?_append_left (by omega)]
    · rw [if_neg hj, List.getElem?_append_right (by omega), hlen]
  have slen : svs.length = n := by show (as.map (svOf e1) ++ dds.map SV.d).length = n; simp; omega
  have vlen : ((vs ++ dvs).map some).length = n := by simp; omega
  have erc : ER (cfg c.K c.CT c.tt n) N1 ⟨svs, a', (vs ++ dvs).map some, H1⟩ := by
    refine ⟨by show ((vs ++ dvs).map some).length = svs.length; omega, fun j sv q => ?_, fun j q => ?_, fun j => ?_, fun j k p h1 h2 => ?_, fun j p h1 z => ?_, fun p z => ?_, er.tb⟩
    · have q : svs[j]? = some sv := q
      rw [sget j] at q
      by_cases hj : j < as.length
      · rw [if_pos hj, List.getElem?_eq_getElem hj] at q
        have q : some (svOf e1 as[j]) = some sv := q
        cases q
        obtain ⟨v, hv, rv⟩ := ra.get (i := j) (x := as[j]) (List.getElem?_eq_getElem hj)
        refine .inr ⟨v, by show ((vs ++ dvs).map some)[j]? = _; rw [vget j, if_pos hj, hv] <;> rfl, ?_⟩
        show Sr _ (NN N1 a') H1 v (svOf e1 as[j]) (a' j)
        cases hx : as[j] with
        | ln i =>
          rw [hx] at rv
          obtain ⟨r1, r2⟩ := rv
          obtain ⟨su, u, q1, q2, q3, q4⟩ := er.own_v r2
          have q3 : σ[i]? = some (some u) := q3
          have r1 : σ[i]? = some (some v) := r1
          rw [r1] at q3
          cases q3
          rw [ha2 j i (by rw [List.getElem?_eq_getElem hj, hx])]
          show Sr _ (NN N1 a') H1 v (e1.getD i .unset) (a1 i)
          have q1 : e1[i]? = some su := q1
          rw [List.getD_eq_getElem?_getD, q1]
          exact (Sr.move (c := c) (O := fun _ => False) (fun b o q _ _ => q) (fun _ z => z.elim) (fun p z => .inl (nn1 p z)) q4 fun _ _ z => z).np (c := c) (c' := (cfg c.K c.CT c.tt n)) rfl rfl (fun p d k z => (hX p d k z).elim)
        | vl x =>
          rw [hx] at rv
          have ea : a' j = [] := by
            show (match as[j]? with | some (.ln i) => a1 i | _ => []) = []
            rw [List.getElem?_eq_getElem hj, hx]
          rw [ea]
          exact .d (Rp.mono rv nn1)
      · rw [if_neg hj] at q
        cases qd : dds[j - as.length]? with
        | none => rw [qd] at q; cases q
        | some x =>
          rw [qd] at q
          cases q
          obtain ⟨v, hv, rv⟩ := (rd (NN N1 a') H1).get qd
          refine .inr ⟨v, by show ((vs ++ dvs).map some)[j]? = _; rw [vget j, if_neg hj, hv] <;> rfl, ?_⟩
          have ea : a' j = [] := by
            show (match as[j]? with | some (.ln i) => a1 i | _ => []) = []
            rw [List.getElem?_eq_none (by omega)]
          show Sr _ (NN N1 a') H1 v (.d x) (a' j)
          rw [ea]
          exact .d rv
    · show a' j = []
      cases hq : as[j]? with
      | none => show (match as[j]? with | some (.ln i) => a1 i | _ => []) = []; rw [hq]
      | some x =>
        cases x with
        | vl x => show (match as[j]? with | some (.ln i) => a1 i | _ => []) = []; rw [hq]
        | ln i =>
          have hj : j < as.length := (List.getElem?_eq_some_iff.mp hq).1
          obtain ⟨v, hv, rv⟩ := ra.get hq
          obtain ⟨r1, r2⟩ := rv
          obtain ⟨su, u, q1, q2, q3, q4⟩ := er.own_v r2
          have q : svs[j]? = none ∨ svs[j]? = some .unset := q
          rw [sget j, if_pos hj, hq] at q
          have q1 : e1[i]? = some su := q1
          have ev : svOf e1 (.ln i) = su := by show e1.getD i .unset = su; rw [List.getD_eq_getElem?_getD, q1] <;> rfl
          rcases q with q | q
          · cases q
          · have q : some (svOf e1 (.ln i)) = some SV.unset := q
            rw [ev] at q
            cases q
            cases q2
    · show (a' j).Nodup
      cases hq : as[j]? with
      | none => show (match as[j]? with | some (.ln i) => a1 i | _ => []).Nodup; rw [hq]; exact List.nodup_nil
      | some x =>
        cases x with
        | vl x => show (match as[j]? with | some (.ln i) => a1 i | _ => []).Nodup; rw [hq]; exact List.nodup_nil
        | ln i => rw [ha2 j i hq]; exact er.nd i
    · obtain ⟨i, q1, m1⟩ := ha' j p h1
      obtain ⟨i2, q2, m2⟩ := ha' k p h2
      have ei := er.dj _ _ p m1 m2
      subst ei
      have t1 := lnAt_of ok q1
      rw [lnAt_of ok q2] at t1
      exact (Option.some.inj t1).symm
    · obtain ⟨i, q1, m1⟩ := ha' j p h1
      rcases z with z | ⟨i2, q2, m2⟩
      · exact er.n0 i p m1 z
      · have ei := er.dj _ _ p m1 m2
        subst ei
        rw [lnAt_of ok q1] at q2
        cases q2
    · rcases z with z | ⟨i, _, m⟩
      · exact er.tr p z
      · obtain ⟨o, e0, t, _⟩ := er.kind m; exact ⟨o, e0, t⟩
  -- what the caller has behind the call
  have back : ∀ (svs' : List SV) (r : SV) (v : V) (a'' : Nat → List Addr) (H' : Hp), svs'.length = n → ER (cfg c.K c.CT c.tt n) N1 ⟨svs' ++ [r], a'', (vs ++ dvs).map some ++ [some v], H'⟩ → Stp (cfg c.K c.CT c.tt n) ⟨svs, a', (vs ++ dvs).map some, H1⟩ ⟨svs' ++ [r], a'', (vs ++ dvs).map some ++ [some v], H'⟩ →
      ∃ b, ER c N0 ⟨wb as svs' e1 ++ [r], b, σ ++ [some v], H'⟩ ∧ Stp c ⟨e1, a1, σ, H1⟩ ⟨wb as svs' e1 ++ [r], b, σ ++ [some v], H'⟩ ∧ ∀ p, NN N0 b p → NN N1 a'' p := by
    intro svs' r v a'' H' hl' er' st'
    have elen : (wb as svs' e1).length = e1.length := wb_len _ _ _
    have sl' : ∀ j su, j < n → svs'[j]? = some su → su = .unset ∨ ∃ u, ((vs ++ dvs).map some)[j]? = some (some u) ∧ Sr (cfg c.K c.CT c.tt n) (NN N1 a'') H' u su (a'' j) := fun j su hj q => by
      rcases er'.slot j su (by show (svs' ++ [r])[j]? = _; rw [List.getElem?_append_left (by omega)]; exact q) with z | ⟨u, x1, y⟩
      · exact .inl z
      · have x1 : ((vs ++ dvs).map some ++ [some v])[j]? = some (some u) := x1
        rw [List.getElem?_append_left (by omega)] at x1
        exact .inr ⟨u, x1, y⟩
    let b : Nat → List Addr := fun i => if i = e1.length then a'' n else match lnAt as i with | some j => if (svs'.getD j .unset).own = true then a'' j else [] | none => a1 i
    have lnlt : ∀ i j, lnAt as i = some j → i < e1.length ∧ j < as.length := fun i j q => by
      obtain ⟨w, hw, rw'⟩ := ra.get (lnAt_get q)
      have r1 : σ[i]? = some (some w) := rw'.1
      have := (List.getElem?_eq_some_iff.mp r1).1
      exact ⟨by omega, (List.getElem?_eq_some_iff.mp (lnAt_get q)).1⟩
    have bn : b e1.length = a'' n := if_pos rfl
    have bi : ∀ i, i ≠ e1.length → b i = (match lnAt as i with | some j => if (svs'.getD j .unset).own = true then a'' j else [] | none => a1 i) := fun i h => if_neg h
    have hb : ∀ i p, p ∈ b i → (i = e1.length ∧ p ∈ a'' n) ∨ (i ≠ e1.length ∧ lnAt as i = none ∧ p ∈ a1 i) ∨ ∃ j, i ≠ e1.length ∧ j < n ∧ lnAt as i = some j ∧ p ∈ a'' j := fun i p hp => by
      by_cases hi : i = e1.length
      · rw [hi, bn] at hp; exact .inl ⟨hi, hp⟩
      · rw [bi i hi] at hp
        split at hp
        · rename_i j q
          split at hp
          · exact .inr (.inr ⟨j, hi, by have := (lnlt i j q).2; omega, q, hp⟩)
          · cases hp
        · rename_i q; exact .inr (.inl ⟨hi, q, hp⟩)
    have una : ∀ q, (¬ ∃ i, q ∈ a1 i) → ¬ ∃ j, q ∈ a' j := fun q nq ⟨j, m⟩ => by
      obtain ⟨i, _, m2⟩ := ha' j q m
      exact nq ⟨i, m2⟩
    have ext : ∀ q o, H1 q = some o → (¬ ∃ i, q ∈ a1 i) → NT o → H' q = some o := fun q o h1 nq t => st'.ext q o h1 (una q nq) t
    have old : ∀ j p, p ∈ a'' j → (∃ i, p ∈ a1 i) ∨ NTrk H1 p := fun j p m => by
      rcases st'.new j p m with ⟨k, z⟩ | z
      · obtain ⟨i2, _, m2⟩ := ha' k p z
        exact .inl ⟨i2, m2⟩
      · exact .inr z
    have new : ∀ i p, p ∈ b i → (∃ j, p ∈ a1 j) ∨ NTrk H1 p := fun i p hp => by
      rcases hb i p hp with ⟨_, m⟩ | ⟨_, _, m⟩ | ⟨j, _, _, _, m⟩
      · exact old _ p m
      · exact .inl ⟨i, m⟩
      · exact old _ p m
    have nnb : ∀ p, NN N0 b p → NN N1 a'' p := fun p hp => by
      rcases hp with hp | ⟨i, m⟩
      · exact .inl (.inl hp)
      · rcases hb i p m with ⟨_, m⟩ | ⟨_, q, m⟩ | ⟨j, _, _, _, m⟩
        · exact .inr ⟨n, m⟩
        · exact .inl (.inr ⟨i, q, m⟩)
        · exact .inr ⟨j, m⟩
    have nnc : ∀ p, NN N0 b p → NN N0 a1 p ∨ NTrk H1 p := fun p hp => by
      rcases hp with hp | ⟨i, m⟩
      · exact .inl (.inl hp)
      · exact (new i p m).imp .inr id
    have key : ∀ i sv, (wb as svs' e1 ++ [r])[i]? = some sv → (i = e1.length ∧ sv = r) ∨ (i < e1.length ∧ lnAt as i = none ∧ e1[i]? = some sv) ∨ ∃ j su, j < n ∧ lnAt as i = some j ∧ i < e1.length ∧ svs'[j]? = some su ∧ sv = outV su := fun i sv q => by
      by_cases hi : i < e1.length
      · rw [List.getElem?_append_left (by omega)] at q
        cases hq : lnAt as i with
        | none => rw [wb_out hq] at q; exact .inr (.inl ⟨hi, rfl, q⟩)
        | some j =>
          have hj : j < svs'.length := by have := (lnlt i j hq).2; omega
          rw [wb_in ok hq hi hj] at q
          refine .inr (.inr ⟨j, svs'[j], by omega, rfl, hi, List.getElem?_eq_getElem hj, ?_⟩)
          rw [List.getD_eq_getElem?_getD, List.getElem?_eq_getElem hj] at q
          exact (Option.some.inj q).symm
      · rw [List.getElem?_append_right (by omega), elen] at q
        have hlt := (List.getElem?_eq_some_iff.mp q).1
        have e0 : i - e1.length = 0 := by simpa using hlt
        rw [e0] at q
        cases q
        exact .inl ⟨by omega, rfl⟩
    refine ⟨b, ⟨by show (σ ++ [some v]).length = (wb as svs' e1 ++ [r]).length; simp [elen, hsl], fun i sv q => ?_, fun i q => ?_, fun i => ?_, fun i k p h1 h2 => ?_, fun i p h1 z => ?_, fun p z => er'.tr p (.inl z), er'.tb⟩, ⟨by show e1.length ≤ (wb as svs' e1 ++ [r]).length; simp [elen], ext, new, fun i sv hi q o => ?_⟩, nnb⟩
    · rcases key i sv q with ⟨hi, z⟩ | ⟨hi, hq, q5⟩ | ⟨j, su, hj, hq, hlt, q5, z⟩
      · subst z
        subst hi
        rcases er'.slot n sv (by show (svs' ++ [sv])[n]? = _; rw [← hl']; simp) with z | ⟨u, x1, y⟩
        · exact .inl z
        · have x1 : ((vs ++ dvs).map some ++ [some v])[n]? = some (some u) := x1
          rw [← vlen] at x1
          simp at x1
          subst x1
          refine .inr ⟨v, by show (σ ++ [some v])[e1.length]? = _; rw [← hsl]; simp, ?_⟩
          show Sr c (NN N0 b) H' v sv (b e1.length)
          rw [bn]
          exact (Sr.move (c := (cfg c.K c.CT c.tt n)) (O := fun _ => False) (fun b o q _ _ => q) (fun _ z => z.elim) (fun p z => .inl (nnb p z)) y fun _ _ z => z).np (c := (cfg c.K c.CT c.tt n)) (c' := c) rfl rfl (fun _ _ _ z => False.elim z)
      · rcases er.slot i sv q5 with z | ⟨u, x1, y⟩
        · exact .inl z
        · refine .inr ⟨u, by show (σ ++ [some v])[i]? = _; rw [List.getElem?_append_left (by omega)]; exact x1, ?_⟩
          show Sr c (NN N0 b) H' u sv (b i)
          rw [bi i (by omega), hq]
          have g1 : ∀ p, (∃ j, p ∈ a' j) → NN N0 a1 p := fun p z => by
            obtain ⟨j, m⟩ := z
            obtain ⟨i2, _, m2⟩ := ha' j p m
            exact .inr ⟨i2, m2⟩
          have g2 : ∀ p ∈ a1 i, ¬ ∃ j, p ∈ a' j := fun p m z => by
            obtain ⟨j, m2⟩ := z
            obtain ⟨i2, q2, m3⟩ := ha' j p m2
            have ei := er.dj _ _ p m m3
            subst ei
            rw [lnAt_of ok q2] at hq
            cases hq
          exact y.move (O := fun p => ∃ j, p ∈ a' j) st'.ext g1 nnc g2
      · subst z
        unfold outV
        cases ho : su.own with
        | false => exact .inl rfl
        | true =>
          rw [if_pos rfl]
          rcases sl' j su hj q5 with z | ⟨u, x1, y⟩
          · subst z; cases ho
          · have hj2 : j < as.length := (lnlt i j hq).2
            obtain ⟨w, hw, rw'⟩ := ra.get (lnAt_get hq)
            rw [vget j, if_pos hj2, hw] at x1
            have x1 : w = u := Option.some.inj (Option.some.inj x1)
            subst x1
            refine .inr ⟨w, by show (σ ++ [some v])[i]? = _; rw [List.getElem?_append_left (by omega)]; exact rw'.1, ?_⟩
            show Sr c (NN N0 b) H' w su (b i)
            rw [bi i (by omega), hq]
            show Sr c (NN N0 b) H' w su (if (svs'.getD j .unset).own = true then a'' j else [])
            rw [List.getD_eq_getElem?_getD, q5, if_pos (show ((some su).getD SV.unset).own = true from ho)]
            exact (Sr.move (c := (cfg c.K c.CT c.tt n)) (O := fun _ => False) (fun b o q _ _ => q) (fun _ z => z.elim) (fun p z => .inl (nnb p z)) y fun _ _ z => z).np (c := (cfg c.K c.CT c.tt n)) (c' := c) rfl rfl (fun _ _ _ z => False.elim z)
    · show b i = []
      have q : (wb as svs' e1 ++ [r])[i]? = none ∨ (wb as svs' e1 ++ [r])[i]? = some .unset := q
      by_cases hi : i < e1.length
      · rw [List.getElem?_append_left (by omega)] at q
        rw [bi i (by omega)]
        cases hq : lnAt as i with
        | none => rw [wb_out hq] at q; exact er.zero i q
        | some j =>
          show (if (svs'.getD j .unset).own = true then a'' j else []) = []
          split
          · rename_i ho
            have hj : j < svs'.length := by have := (lnlt i j hq).2; omega
            rw [wb_in ok hq hi hj] at q
            unfold outV at q
            rw [if_pos ho] at q
            rcases q with q | q
            · cases q
            · have q := Option.some.inj q
              rw [q] at ho
              cases ho
          · rfl
      · by_cases hi2 : i = e1.length
        · subst hi2
          rw [bn]
          refine er'.zero n ?_
          show (svs' ++ [r])[n]? = none ∨ (svs' ++ [r])[n]? = some .unset
          rw [← elen] at q
          rw [← hl']
          simpa using q
        · rw [bi i hi2]
          have hq : lnAt as i = none := by
            cases h : lnAt as i with
            | none => rfl
            | some j => have := (lnlt i j h).1; omega
          rw [hq]
          exact er.zero i (.inl (List.getElem?_eq_none (by show e1.length ≤ i; omega)))
    · show (b i).Nodup
      by_cases hi : i = e1.length
      · rw [hi, bn]; exact er'.nd _
      · rw [bi i hi]
        split
        · split
          · exact er'.nd _
          · exact List.nodup_nil
        · exact er.nd i
    · rcases hb i p h1 with ⟨q1, m1⟩ | ⟨n1, q1, m1⟩ | ⟨j, n1, l1, q1, m1⟩ <;> rcases hb k p h2 with ⟨q2, m2⟩ | ⟨n2, q2, m2⟩ | ⟨j2, n2, l2, q2, m2⟩
      · omega
      · exact absurd (.inr ⟨k, q2, m2⟩) (er'.n0 n p m1)
      · have := er'.dj _ _ p m1 m2; omega
      · exact absurd (.inr ⟨i, q1, m1⟩) (er'.n0 n p m2)
      · exact er.dj _ _ p m1 m2
      · exact absurd (.inr ⟨i, q1, m1⟩) (er'.n0 j2 p m2)
      · have := er'.dj _ _ p m1 m2; omega
      · exact absurd (.inr ⟨k, q2, m2⟩) (er'.n0 j p m1)
      · have ej := er'.dj _ _ p m1 m2
        subst ej
        have t1 := lnAt_get q1
        rw [lnAt_get q2] at t1
        cases t1
        rfl
    · rcases hb i p h1 with ⟨_, m⟩ | ⟨_, _, m⟩ | ⟨j, _, _, _, m⟩
      · exact er'.n0 n p m (.inl z)
      · exact er.n0 i p m z
      · exact er'.n0 j p m (.inl z)
    · rcases key i sv q with ⟨hi2, z⟩ | ⟨hi2, _, q5⟩ | ⟨j, su, hj, hq, hlt, q5, z⟩
      · have := hi.2
        have : i < e1.length := this
        omega
      · exact ⟨by show (σ ++ [some v])[i]? = σ[i]?; rw [List.getElem?_append_left (by omega)], sv, q5, o⟩
      · obtain ⟨w, hw, rw'⟩ := ra.get (lnAt_get hq)
        obtain ⟨s1, _, s2, s3, _⟩ := er.own_v rw'.2
        exact ⟨by show (σ ++ [some v])[i]? = σ[i]?; rw [List.getElem?_append_left (by omega)], s1, s2, s3⟩
  refine ⟨by rw [List.length_append, hlen]; omega, N1, svs, a', erc, ?_⟩
  revert h
  show (match f svs with | .ok r svs => _ | .err cn fs svs => _ | .stuck => False) → _
  cases f svs with
  | stuck => exact fun h => h
  | err cn fs svs' =>
    intro h hl' a'' H' C dd fvs er' st' hC hd hF hnn
    have k := er'.push_d (v := .non) (x := .none) .non
    obtain ⟨b, b1, b2, b3⟩ := back svs' (.d .none) .non a'' H' hl' k.1 (k.2 _ st')
    obtain ⟨d1, d2⟩ := b1.drop
    refine h _ H' C dd fvs d1 (d2 _ (by rw [wb_len]; exact Nat.le_refl _) b2) hC hd (hF.mono fun p hp => b3 p (hp.elim .inl fun ⟨i, z⟩ => .inr ⟨i, (fup_nil z).1⟩)) (fun hp => hnn (b3 _ (hp.elim .inl fun ⟨i, z⟩ => .inr ⟨i, (fup_nil z).1⟩)))
  | ok r svs' =>
    intro h hl' a'' H' v er' st'
    obtain ⟨b, b1, b2, b3⟩ := back svs' r v a'' H' hl' er' st'
    exact h b H' v b1 b2

/-- the call itself, from the arguments -/
theorem call_run {gb : Bool} {X : Cx} {c : Cfg} {W : WX} {k n : Nat} {g : Addr} {fd : FuncData} {ps : List Str} {dvs : List V} {ds : List Value} {dds : List D} {f : Md SV} (hX : ∀ p d k, ¬ c.xp p d k) (hK : c.K = X.K) (Fo : FnV X.prog X.w X.K X.mg X.base (L2.CX X.prog X.w) gb k g fd ps (spV X.K c.CT c.tt n f)) (hr : Rm gb k X.A) (tk : Takes X W)
    (hb : Binds X.K fd ps ds) (hd : Vals dvs ds) (rd : ∀ N H, Rps X.K N H dvs dds) {pins : List (Addr × Obj)} {σ : L2.St} {H1 : Hp} {s : Shared} {Q : VK} {us : List Value} {vs : List V} {N0 : Addr → Prop} {e1 : Env} {a1 : Nat → List Addr} {as : List AV} (hn : as.length + dds.length = n)
    (I : Inv X pins σ H1 s) (r : Vals vs us) (er : ER c N0 ⟨e1, a1, σ, H1⟩) (ra : AvRs c N0 ⟨e1, a1, σ, H1⟩ vs as)
    (h : PostO c W N0 ⟨e1, a1, σ, H1⟩ (if lnOk as = true then match f (as.map (svOf e1) ++ dds.map SV.d) with
      | .ok r svs => .ok r (wb as svs e1)
      | .err c fs svs => .err c fs (wb as svs e1)
      | .stuck => .stuck else .stuck) Q) : wpAny (model X.prog X.w) X.A (call (.ref g) us) (EP X pins σ Q) X.xe s := by
  refine run_fnV (E := L2.WE W) Fo hr hb hd (passAt tk σ) I r ?_
  split at h
  · rename_i ok
    refine call_sp (f := f) hX hK rfl rfl hn er ra rd ok ?_
    revert h
    cases f (as.map (svOf e1) ++ dds.map SV.d) with
    | stuck => exact fun h => h
    | ok r svs => exact fun h a' H' v er' st' => h a' H' v er' st'
    | err cn fs svs =>
      intro h a' H' C dd fvs er' st' hC hd hF hnn
      rw [← hK] at hF
      exact h a' H' C dd fvs er' st' hC hd hF hnn
  · exact h.elim
theorem obindA {N0 : Addr → Prop} {e : Env} {a : Nat → List Addr} {σ : L2.St} {H : Hp} {W : WX} {F : Md (List AV)} {k : List AV → Md SV} {Q : VK} {R : List V → Hp → Prop} (er : ER c N0 ⟨e, a, σ, H⟩) (h : PostO c W N0 ⟨e, a, σ, H⟩ (bnd F k e) Q)
    (g : ∀ x e1 a1 H1 v, ER c N0 ⟨e1, a1, σ, H1⟩ → Stp c ⟨e, a, σ, H⟩ ⟨e1, a1, σ, H1⟩ → AvRs c N0 ⟨e1, a1, σ, H1⟩ v x → PostO c W N0 ⟨e1, a1, σ, H1⟩ (k x e1) Q → R v H1) : tA c W F σ H R := by
  refine ⟨N0, e, a, er, ?_⟩
  unfold bnd at h
  revert h
  generalize F e = r
  cases r with
  | ok x e1 => exact fun h a1 H1 v er1 st rv => g x e1 a1 H1 v er1 st rv (PostO.from h st rfl)
  | err cn fs e1 => exact fun h => h
  | stuck => exact fun h => h
/-- as many arguments as n, defaults among them, or nothing is said -/
def oCallN (n : Nat) (f : Md SV) (dds : List D) (A : Md (List AV)) : Md SV := bnd A fun as e1 => if as.length + dds.length = n then (if lnOk as = true then match f (as.map (svOf e1) ++ dds.map SV.d) with
  | .ok r svs => .ok r (wb as svs e1)
  | .err c fs svs => .err c fs (wb as svs e1)
  | .stuck => .stuck else .stuck) else .stuck
theorem PostO.ite {c : Cfg} {W : WX} {N0 : Addr → Prop} {S : Sx} {p : Prop} [Decidable p] {r : Res SV} {Q : VK} (h : PostO c W N0 S (if p then r else .stuck) Q) : p ∧ PostO c W N0 S r Q := by
  by_cases hp : p
  · rw [if_pos hp] at h; exact ⟨hp, h⟩
  · rw [if_neg hp] at h; exact h.elim
/-- f(..): a def of the module -/
theorem do_call {gb : Bool} {x : Str} {p : Pos} {k n : Nat} {g : Addr} {fd : FuncData} {ps : List Str} {dvs : List V} {ds : List Value} {dds : List D} {W : WX} (hX : ∀ p d k, ¬ c.xp p d k) (hK : c.K = X.K) (Fo : FnV X.prog X.w X.K X.mg X.base (L2.CX X.prog X.w) gb k g fd ps (spV X.K c.CT c.tt n f)) (hr : Rm gb k X.A) (tk : Takes X W) (hg : Gl X x) (hm : X.mg x = some (.ref g)) (hk : PySem.W.keepIn X.K (.ref g) = true)
    (hb : Binds X.K fd ps ds) (hd : Vals dvs ds) (rd : ∀ N H, Rps X.K N H dvs dds) (ha : PA X (e :: es) (tA c W FA)) (hdb : (x == ("__debug__" : Str)) = false := by decide +kernel)
    (he : starEach (e :: es) X.env = (false, eval e X.env) :: starEach es X.env := by rfl) (hpl : (backTo pos (starEach es X.env)).any (·.1) = false := by rfl) : PE X (.Call (.Name x p) (e :: es) [] pos) (tO c W (oCallN n f dds FA)) := by
  refine ⟨fun pins s σ H Q I h => ?_⟩
  obtain ⟨N0, e0, a0, er, h⟩ := h
  refine wpAny_Call_Name_kw (ld_glob I hg hm ?_ hdb)
  refine PySem.W.callWith_K (h₀ := X.base) I.ok.mod.kin hk (thn (ha.run pos pins s σ H (fun vs H1 => ∃ e1 a1 as, ER c N0 ⟨e1, a1, σ, H1⟩ ∧ AvRs c N0 ⟨e1, a1, σ, H1⟩ vs as ∧ PostO c W N0 ⟨e1, a1, σ, H1⟩ (if as.length + dds.length = n then (if lnOk as = true then match f (as.map (svOf e1) ++ dds.map SV.d) with
      | .ok r svs => .ok r (wb as svs e1)
      | .err c fs svs => .err c fs (wb as svs e1)
      | .stuck => .stuck else .stuck) else .stuck) Q) I ?_) fun us s1 ⟨vs, H1, I1, r, q⟩ => ⟨I1.kIn, ?_⟩) he hpl
  · exact obindA er h fun as e1 a1 H1 vs er1 st1 ra h => ⟨e1, a1, as, er1, ra, h⟩
  · obtain ⟨e1, a1, as, er1, ra, h⟩ := q
    obtain ⟨hn, h⟩ := h.ite
    exact call_run hX hK Fo hr tk hb hd rd hn I1 r er1 ra h
/-- f() -/
theorem do_call0 {gb : Bool} {x : Str} {p : Pos} {k n : Nat} {g : Addr} {fd : FuncData} {ps : List Str} {dvs : List V} {ds : List Value} {dds : List D} {W : WX} (hX : ∀ p d k, ¬ c.xp p d k) (hK : c.K = X.K) (Fo : FnV X.prog X.w X.K X.mg X.base (L2.CX X.prog X.w) gb k g fd ps (spV X.K c.CT c.tt n f)) (hr : Rm gb k X.A) (tk : Takes X W) (hg : Gl X x) (hm : X.mg x = some (.ref g)) (hk : PySem.W.keepIn X.K (.ref g) = true)
    (hb : Binds X.K fd ps ds) (hd : Vals dvs ds) (rd : ∀ N H, Rps X.K N H dvs dds) (hdb : (x == ("__debug__" : Str)) = false := by decide +kernel) : PE X (.Call (.Name x p) [] [] pos) (tO c W (oCallN n f dds aaN)) := by
  refine ⟨fun pins s σ H Q I h => ?_⟩
  obtain ⟨N0, e0, a0, er, h⟩ := h
  refine wpAny_Call_Name_kw (ld_glob I hg hm ?_ hdb)
  obtain ⟨hn, h⟩ := (show PostO c W N0 _ (if ([] : List AV).length + dds.length = n then _ else Res.stuck) Q from h).ite
  exact PySem.W.callWith_K0 I.kIn hk (call_run hX hK Fo hr tk hb hd rd hn I .nil er .nil h)
/-- o.m(..) of an own thing that a name holds -/
def oMethN (n i : Nat) (cn m : Str) (f : Md SV) (dds : List D) (A : Md (List AV)) : Md SV := fun e0 => match e0[i]? with
  | some (.oi c' fs) => if c' = cn ∧ (fs.lookup m).isNone = true then oCallN n f dds (aaL i A) e0 else .stuck
  | _ => .stuck
theorem Srf.look {c : Cfg} {N : Addr → Prop} {H : Hp} {m : Str} : ∀ {fvs : List (Str × V)} {fs : List (Str × SV)} {as : List Addr}, Srf c N H fvs fs as → (fs.lookup m).isNone = true → fvs.lookup m = none
  | _, _, _, .nil, _ => rfl
  | _, _, _, .cons (f := f) h r, e => by
    rw [List.lookup_cons] at e ⊢
    by_cases q : (m == f) = true
    · rw [q] at e; cases e
    · rw [Bool.eq_false_iff.mpr q] at e ⊢
      exact Srf.look r e
theorem ER.get_oi {N0 : Addr → Prop} {S : Sx} {i : Nat} {cn : Str} {fs : List (Str × SV)} (h : ER c N0 S) (e : S.e[i]? = some (.oi cn fs)) : ∃ p C dx fvs as, S.s[i]? = some (some (.ref p)) ∧ S.h p = some (.ins C dx fvs) ∧ c.CT cn = some C ∧ Srf c (NN N0 S.a) S.h fvs fs as ∧ S.a i = p :: as := by
  rcases h.slot i _ e with z | ⟨v, e1, r⟩
  · cases z
  · generalize ha : S.a i = as at r
    cases r with
    | oi h1 z r => exact ⟨_, _, _, _, _, e1, h1, z, r, rfl⟩
section
variable {m x : Str} {p1 apos : Pos} {k n i : Nat} {C g : Addr} {cn : Str} {fd : FuncData} {ps : List Str} {dvs : List V} {ds : List Value} {dds : List D} {W : WX}
theorem do_meth {gb : Bool} {pl : Sem Bool} (hX : ∀ p d k, ¬ c.xp p d k) (hK : c.K = X.K) (hC : c.CT cn = some C) (cl : Cls X.K C) (hme : Meth X.K C m g) (Fo : FnV X.prog X.w X.K X.mg X.base (L2.CX X.prog X.w) gb k g fd ps (spV X.K c.CT c.tt n f)) (hr : Rm gb k X.A) (tk : Takes X W) (hN : X.N[i]? = some x) (hv : Vis X.env.scope x)
    (hb : Binds X.K fd ps ds) (hd : Vals dvs ds) (rd : ∀ N H, Rps X.K N H dvs dds) (ha : PA X (e :: es) (tA c W FA)) (hdb : (x == ("__debug__" : Str)) = false := by decide +kernel) (hcd : (x == ("__classdict__" : Str)) = false := by decide +kernel)
    (hst : starEach (e :: es) X.env = (false, eval e X.env) :: starEach es X.env := by rfl) (hpl : (backTo pos (starEach es X.env)).any (·.1) = false := by rfl)
    (ht : eval (.Call (.Attribute (.Name x p1) m apos) (e :: es) [] pos) X.env = (do
      let ov ← eval (.Name x p1) X.env
      standAt apos.atName
      let (f, first) ← holding [ov] (getMethod ov m pl)
      callWith pos f first (backTo pos (starEach (e :: es) X.env)) (backToKw pos (keywordEach [] X.env))) := by rfl) :
    PE X (.Call (.Attribute (.Name x p1) m apos) (e :: es) [] pos) (tO c W (oMethN n i cn m f dds FA)) := by
  refine ⟨fun pins s σ H Q I h => ?_⟩
  obtain ⟨N0, e0, a0, er, h⟩ := h
  unfold oMethN at h
  split at h
  · rename_i c' fs he
    obtain ⟨⟨ec, hl⟩, h2⟩ := h.ite
    clear h
    subst ec
    have h := h2
    clear h2
    obtain ⟨p, C', dx, fvs, fas, hσ, hp, hC', hf, hap⟩ := er.get_oi he
    rw [hC] at hC'
    cases hC'
    refine PySem.W.methodCall_KW (pl := pl) (thn ((pe_var (pos := p1) (i := i) hN hv hdb hcd).run pins s σ H (fun v H1 => v = .ref p ∧ H1 = H) I ⟨_, hσ, rfl, rfl⟩) fun u s1 ⟨v, H1, I1, rx, ev, eh⟩ => ?_) ht
    subst ev eh
    obtain rfl : u = Value.ref p := rx
    refine getmeth_ok I1 hp cl hme (hf.look hl) ?_
    unfold oCallN aaL at h
    have ho : (e0.getD i .unset).own = true := by
      have he : e0[i]? = _ := he
      rw [List.getD_eq_getElem?_getD, he]; rfl
    unfold bnd at h
    simp only [ho, if_true] at h
    refine PySem.W.callWith_K (first := [.ref p]) (h₀ := X.base) I1.ok.mod.kin hme.kp (thn (ha.run pos pins s1 σ H1 (fun vs H2 => ∃ e1 a1 as, ER c N0 ⟨e1, a1, σ, H2⟩ ∧ AvRs c N0 ⟨e1, a1, σ, H2⟩ (.ref p :: vs) (.ln i :: as) ∧ PostO c W N0 ⟨e1, a1, σ, H2⟩ (if (AV.ln i :: as).length + dds.length = n then (if lnOk (.ln i :: as) = true then match f ((AV.ln i :: as).map (svOf e1) ++ dds.map SV.d) with
      | .ok r svs => .ok r (wb (.ln i :: as) svs e1)
      | .err c fs svs => .err c fs (wb (.ln i :: as) svs e1)
      | .stuck => .stuck else .stuck) else .stuck) Q) I1 ?_) fun us s2 ⟨vs, H2, I2, r, q⟩ => ⟨I2.kIn, ?_⟩) hst hpl
    · refine ⟨N0, e0, a0, er, ?_⟩
      revert h
      cases hA : FA e0 with
      | stuck => exact fun h => h
      | err cn fs e1 => exact fun h => h
      | ok as e1 =>
        intro h a1 H2 vs er1 st1 ra
        simp only at h
        cases ho1 : (e1.getD i .unset).own with
        | false => rw [ho1] at h; exact h.elim
        | true =>
          rw [ho1] at h
          simp only [if_true] at h
          exact ⟨e1, a1, as, er1, .cons (show AvR c N0 ⟨e1, a1, σ, H2⟩ (.ref p) (.ln i) from ⟨hσ, ho1⟩) ra, PostO.from h st1 rfl⟩
    · obtain ⟨e1, a1, as, er1, ra, h⟩ := q
      obtain ⟨hn, h⟩ := h.ite
      exact call_run (us := .ref p :: us) (vs := .ref p :: vs) hX hK Fo hr tk hb hd rd hn I2 (.cons (show L2.RelV (.ref p) (.ref p) from rfl) r) er1 ra h
  · exact h.elim
theorem do_meth0 {gb : Bool} {pl : Sem Bool} (hX : ∀ p d k, ¬ c.xp p d k) (hK : c.K = X.K) (hC : c.CT cn = some C) (cl : Cls X.K C) (hme : Meth X.K C m g) (Fo : FnV X.prog X.w X.K X.mg X.base (L2.CX X.prog X.w) gb k g fd ps (spV X.K c.CT c.tt n f)) (hr : Rm gb k X.A) (tk : Takes X W) (hN : X.N[i]? = some x) (hv : Vis X.env.scope x)
    (hb : Binds X.K fd ps ds) (hd : Vals dvs ds) (rd : ∀ N H, Rps X.K N H dvs dds) (hdb : (x == ("__debug__" : Str)) = false := by decide +kernel) (hcd : (x == ("__classdict__" : Str)) = false := by decide +kernel)
    (ht : eval (.Call (.Attribute (.Name x p1) m apos) [] [] pos) X.env = (do
      let ov ← eval (.Name x p1) X.env
      standAt apos.atName
      let (f, first) ← holding [ov] (getMethod ov m pl)
      callWith pos f first (backTo pos (starEach [] X.env)) (backToKw pos (keywordEach [] X.env))) := by rfl) :
    PE X (.Call (.Attribute (.Name x p1) m apos) [] [] pos) (tO c W (oMethN n i cn m f dds aaN)) := by
  refine ⟨fun pins s σ H Q I h => ?_⟩
  obtain ⟨N0, e0, a0, er, h⟩ := h
  unfold oMethN at h
  split at h
  · rename_i c' fs he
    obtain ⟨⟨ec, hl⟩, h2⟩ := h.ite
    clear h
    subst ec
    have h := h2
    clear h2
    obtain ⟨p, C', dx, fvs, fas, hσ, hp, hC', hf, hap⟩ := er.get_oi he
    rw [hC] at hC'
    cases hC'
    refine PySem.W.methodCall_KW (pl := pl) (thn ((pe_var (pos := p1) (i := i) hN hv hdb hcd).run pins s σ H (fun v H1 => v = .ref p ∧ H1 = H) I ⟨_, hσ, rfl, rfl⟩) fun u s1 ⟨v, H1, I1, rx, ev, eh⟩ => ?_) ht
    subst ev eh
    obtain rfl : u = Value.ref p := rx
    refine getmeth_ok I1 hp cl hme (hf.look hl) ?_
    have ho : (e0.getD i .unset).own = true := by
      have he : e0[i]? = _ := he
      rw [List.getD_eq_getElem?_getD, he]; rfl
    unfold oCallN aaL bnd aaN at h
    simp only [ho, if_true] at h
    obtain ⟨hn, h⟩ := h.ite
    exact PySem.W.callWith_K0 (first := [.ref p]) I1.kIn hme.kp (call_run (us := [.ref p]) (vs := [.ref p]) hX hK Fo hr tk hb hd rd hn I1 (.cons (show L2.RelV (.ref p) (.ref p) from rfl) .nil) er (.cons (show AvR c N0 ⟨e0, a0, σ, H1⟩ (.ref p) (.ln i) from ⟨hσ, ho⟩) .nil) h)
  · exact h.elim
end
/-- a call's value as plain data -/
theorem de_o {W : WX} (h : PE X e (tO c W FO)) : PE X e (tD c W (oToD FO)) := by
  refine PE.imp h fun σ H Q h => ?_
  obtain ⟨N0, e, a, er, h⟩ := h
  refine ⟨N0, e, a, er, ?_⟩
  unfold oToD at h
  revert h
  cases hF : FO e with
  | stuck => exact fun h => h
  | err cn fs e1 => exact fun h => h
  | ok sv e1 =>
    cases sv with
    | d x =>
      intro h a1 H1 v er1 st1
      have hl : e.length = e1.length := by
        have q1 : (σ ++ [some v]).length = (e1 ++ [SV.d x]).length := er1.len
        have q2 : σ.length = e.length := er.len
        simp at q1; omega
      have hl2 : σ.length = e1.length := by have q2 : σ.length = e.length := er.len; omega
      obtain ⟨d1, d2⟩ := er1.drop
      have key : Rp c.K (NN N0 (fup a1 e1.length [])) H1 v x := by
        rcases er1.slot e1.length (.d x) (by show (e1 ++ [SV.d x])[e1.length]? = _; simp) with z | ⟨u, x1, r⟩
        · cases z
        · have x1 : (σ ++ [some v])[e1.length]? = some (some u) := x1
          rw [← hl2] at x1
          simp at x1
          subst x1
          exact r.inv_d.1.mono fun p hp => hp.elim .inl fun ⟨i, z⟩ => .inr ⟨i, (fup_nil z).1⟩
      exact h _ H1 d1 (d2 _ (Nat.le_of_eq hl) st1) v key
    | unset => exact fun h => h.elim
    | ol _ => exact fun h => h.elim
    | od _ => exact fun h => h.elim
    | oi _ _ => exact fun h => h.elim
    | xo _ _ => exact fun h => h.elim
end
end VL

set_option Elab.async false
set_option autoImplicit false
set_option linter.all false
set_option maxRecDepth 100000
set_option maxHeartbeats 4000000
/-! VL7: the operations by data. -/
namespace VL
open PySem PySem.Spec PyProof.Rows L2
section
variable {X : Cx}
abbrev rOr (r1 r2 : R2) : R2 := fun x y H Q => r1 x y H Q ∨ r2 x y H Q
theorem opor {f : Value → Value → Sem Value} {r1 r2 : R2} (h1 : OpR X f r1) (h2 : OpR X f r2) : OpR X f (rOr r1 r2) := fun pins s σ H x y v u Q I rx ry h =>
  h.elim (h1 pins s σ H x y v u Q I rx ry) (h2 pins s σ H x y v u Q I rx ry)
theorem ixor {r1 r2 : R2} (h1 : IxR X r1) (h2 : IxR X r2) : IxR X (rOr r1 r2) := fun value slice pins s σ H x y v u Q I rx ry h hs =>
  h.elim (fun h => h1 value slice pins s σ H x y v u Q I rx ry h hs) (fun h => h2 value slice pins s σ H x y v u Q I rx ry h hs)
abbrev cOr (r1 r2 : List V → Hp → VK → Prop) : List V → Hp → VK → Prop := fun x H Q => r1 x H Q ∨ r2 x H Q
theorem callor {f : Value} {r1 r2 : List V → Hp → VK → Prop} (h1 : CallR X f r1) (h2 : CallR X f r2) : CallR X f (cOr r1 r2) := fun pins s σ H xs us Q I r h =>
  h.elim (h1 pins s σ H xs us Q I r) (h2 pins s σ H xs us Q I r)
/-! list + list -/
def rCatL (K : PySem.W.Frag) : R2 := fun x y H Q => ∃ l b xs zs, x = .ref l ∧ y = .ref b ∧ SqL K H l xs ∧ SqL K H b zs ∧ xs.length + zs.length ≤ sizeLine ∧ ∀ p, H p = none → Q (.ref p) (upd H p (.lst (xs ++ zs)))
theorem op_catL : OpR X (binaryOp .Add) (rCatL X.K) := by
  intro pins s σ H x y v u Q I rx ry h
  obtain ⟨l, b, xs, zs, rfl, rfl, hH, hB, hz, q⟩ := h
  cases rx
  cases ry
  obtain ⟨its, r, ⟨o, n, e, hc, _, hd⟩, hl⟩ := I.list hH
  obtain ⟨its2, r2, ⟨o2, n2, e2, hc2, _, hd2⟩, hl2⟩ := I.list hB
  have l1 := r.length
  have l2 := r2.length
  obtain ⟨cl, dd, dt, sl⟩ := o
  obtain ⟨cl2, dd2, dt2, sl2⟩ := o2
  simp only at hc hd hc2 hd2
  subst hc hd hc2 hd2
  have hsz : its.toArray.size + its2.toArray.size ≤ sizeLine := by rw [List.size_toArray, List.size_toArray]; omega
  have ea : its.toArray ++ its2.toArray = (its ++ its2).toArray := by simp
  refine concat_meets ⟨_, e, rfl⟩ ⟨_, e2, rfl⟩ noFill_list_add seq_list_add PySem.F.slot_list_add PySem.F.entry_list_add (PySem.F.args_list_add_2 _ _) (list_addW l b its.toArray its2.toArray n n2 dd dd2 sl sl2 hsz) ⟨e, e2, ?_⟩
  rw [ea]
  exact ⟨.ref _, _, I.lnew (t' := s.toks) (r.append r2) (by rw [List.length_append]; omega), rfl, q _ I.fresh⟩
/-! in, not in for tuples -/
def rInT (K : PySem.W.Frag) : R2 := fun x y H Q => ∃ d ds, Dp K H x d ∧ Dp K H y (.tuple ds) ∧ SeqAt.shaped d = true ∧ SeqAt.shaped (.tuple ds) = true ∧ Q (.bl (ds.any fun z => PyData.eqv z d)) H
def rNotInT (K : PySem.W.Frag) : R2 := fun x y H Q => ∃ d ds, Dp K H x d ∧ Dp K H y (.tuple ds) ∧ SeqAt.shaped d = true ∧ SeqAt.shaped (.tuple ds) = true ∧ Q (.bl (!ds.any fun z => PyData.eqv z d)) H
theorem op_inT (hu : X.A.units + 65 < cLine) : OpR X (compareOp .In) (rInT X.K) := by
  intro pins s σ H x y v u Q I rx ry h
  obtain ⟨d, ds, hd, he, sd, se, q⟩ := h
  obtain ⟨as, r1⟩ := Dp.reads I d x v hd rx
  obtain ⟨bs, r2⟩ := Dp.reads I (.tuple ds) y u he ry
  exact SeqAt.in_tuple_reads r2 r1 (SeqAt.canLay_of_shaped se) (SeqAt.canLay_of_shaped sd) (room_in_shaped sd hu) ⟨.bl _, H, I, rfl, q⟩
theorem op_notInT (hu : X.A.units + 65 < cLine) : OpR X (compareOp .NotIn) (rNotInT X.K) := by
  intro pins s σ H x y v u Q I rx ry h
  obtain ⟨d, ds, hd, he, sd, se, q⟩ := h
  obtain ⟨as, r1⟩ := Dp.reads I d x v hd rx
  obtain ⟨bs, r2⟩ := Dp.reads I (.tuple ds) y u he ry
  exact SeqAt.notIn_tuple_reads r2 r1 (SeqAt.canLay_of_shaped se) (SeqAt.canLay_of_shaped sd) (room_in_shaped sd hu) ⟨.bl _, H, I, rfl, q⟩
/-! text * int -/
def sRep (x : Str) (n : Int) : Str := ⟨(List.replicate n.toNat x.cps).foldl (· ++ ·) #[]⟩
def rMulS : R2 := fun x y H Q => ∃ a k, x = .str a ∧ y = .int k ∧ 0 ≤ k ∧ k < 2 ^ 20 ∧ a.length * k.toNat ≤ sizeLine ∧ Q (.str (sRep a k)) H
theorem sRep1 (x : Str) : sRep x 1 = x := by
  unfold sRep
  show (⟨#[] ++ x.cps⟩ : Str) = x
  simp
theorem sRep0 (x : Str) {n : Int} (h : n < 1) : sRep x n = Str.empty := by
  unfold sRep
  have e : n.toNat = 0 := by omega
  rw [e]; rfl
theorem sRepE (x : Str) (n : Int) (h : x.length = 0) : sRep x n = x := by
  have hx : x.cps = #[] := by
    have h' : x.cps.size = 0 := h
    exact Array.eq_empty_of_size_eq_zero h'
  unfold sRep
  rw [hx]
  have : ∀ m : Nat, (List.replicate m (#[] : Array Nat)).foldl (· ++ ·) #[] = #[] := fun m => by
    induction m with
    | zero => rfl
    | succ m ih => rw [List.replicate_succ, List.foldl_cons]; exact ih
  rw [this, ← hx]
theorem sRep_len (x : Str) (n : Int) : (sRep x n).length = x.length * n.toNat := by
  have key : ∀ (m : Nat) (b : Array Nat), ((List.replicate m x.cps).foldl (· ++ ·) b).size = b.size + x.cps.size * m := fun m => by
    induction m with
    | zero => intro b; rfl
    | succ m ih =>
      intro b
      rw [List.replicate_succ, List.foldl_cons, ih, Array.size_append, Nat.mul_succ]
      omega
  have := key n.toNat #[]
  show ((List.replicate n.toNat x.cps).foldl (· ++ ·) #[]).size = _
  rw [this]
  show 0 + x.cps.size * n.toNat = x.cps.size * n.toNat
  omega
theorem op_mulS : OpR X (binaryOp .Mult) rMulS := by
  intro pins s σ H x y v u Q I rx ry h
  obtain ⟨a, k, rfl, rfl, h0, h1, hz, q⟩ := h
  obtain ⟨t, rfl⟩ := rx
  obtain ⟨t', rfl⟩ := ry
  have hs : sizeLine = 16777216 := sizeLine_eq
  have pos : ¬ k < 1 → (k == 1 || a.length == 0) = false → 2 ≤ k ∧ 1 ≤ a.length := fun h2 h3 => by
    simp only [Bool.or_eq_false_iff, beq_eq_false_iff_ne] at h3
    omega
  refine PySem.P.mul_str (by simp; omega) (fun h2 h3 => ?_) (fun h2 h3 => ?_) ?_
  · obtain ⟨p1, p2⟩ := pos h2 h3
    have e1 : (a.length : Int) * k ≤ 16777216 := by
      have : ((a.length * k.toNat : Nat) : Int) ≤ 16777216 := by omega
      rw [Int.natCast_mul, Int.toNat_of_nonneg h0] at this
      exact this
    have e2 : (a.length : Int) ≤ (2 ^ 63 - 1) / k := (Int.le_ediv_iff_mul_le (by omega)).mpr (by omega)
    omega
  · exact decide_eq_false (by omega)
  · split
    · rename_i hk
      exact ⟨by show 0 ≤ sizeLine; omega, .str _, H, I.tok _, ⟨_, rfl⟩, by rw [sRep0 a hk] at q; exact q⟩
    · split
      · rename_i hk he
        have e : sRep a k = a := by
          rcases (by simpa using he : k = 1 ∨ a.length = 0) with e | e
          · rw [e]; exact sRep1 a
          · exact sRepE a k e
        rw [e] at q
        exact ⟨.str _, H, I, ⟨_, rfl⟩, q⟩
      · exact ⟨Nat.le_trans (Nat.le_of_eq (sRep_len a k)) hz, .str _, H, I.tok _, ⟨_, rfl⟩, q⟩
end

/-! ### the operations on data -/
def dAdd : D → D → Option D
  | .int i, .int j => some (.int (i + j))
  | .str a, .str b => if a.length + b.length ≤ sizeLine then some (.str (a ++ b)) else none
  | .list a, .list b => if a.length + b.length ≤ sizeLine then some (.list (a ++ b)) else none
  | .tuple a, .tuple b => if a.length + b.length ≤ sizeLine then some (.tuple (a ++ b)) else none
  | _, _ => none
def dSub : D → D → Option D
  | .int i, .int j => some (.int (i - j))
  | _, _ => none
def dMul : D → D → Option D
  | .int i, .int j => if i.natAbs.log2 + j.natAbs.log2 < 1000000 then some (.int (i * j)) else none
  | .str a, .int k => if 0 ≤ k ∧ k < 2 ^ 20 ∧ a.length * k.toNat ≤ sizeLine then some (.str (sRep a k)) else none
  | _, _ => none
def dMod : D → D → Option D
  | .int i, .int j => if j ≠ 0 then some (.int (i.fmod j)) else none
  | _, _ => none
def dFdiv : D → D → Option D
  | .int i, .int j => if j ≠ 0 ∧ j.natAbs < 1073741824 then some (.int (i.fdiv j)) else none
  | _, _ => none
def dPow : D → D → Option D
  | .int i, .int j => if 0 ≤ j ∧ j ≤ 1000000 ∧ i.natAbs < 2 ^ 64 then some (.int (i ^ j.toNat)) else none
  | _, _ => none
def dNeg : D → Option D
  | .int i => some (.int (-i))
  | _ => none
def dEq : D → D → Option D
  | .str a, .str b => some (.bool (a == b))
  | x, y => if SeqAt.shaped x = true ∧ SeqAt.shaped y = true then some (.bool (PyData.eqv x y)) else none
def dNe : D → D → Option D
  | .str a, .str b => some (.bool (!(a == b)))
  | x, y => if SeqAt.shaped x = true ∧ SeqAt.shaped y = true then some (.bool (!PyData.eqv x y)) else none
def dLt : D → D → Option D
  | .int i, .int j => some (.bool (decide (i < j)))
  | .str i, .str j => some (.bool (decide (i.cps.toList < j.cps.toList)))
  | _, _ => none
def dGt : D → D → Option D
  | .int i, .int j => some (.bool (decide (j < i)))
  | _, _ => none
def dLe : D → D → Option D
  | .int i, .int j => some (.bool (decide (i ≤ j)))
  | _, _ => none
def dGe : D → D → Option D
  | .int i, .int j => some (.bool (decide (j ≤ i)))
  | _, _ => none
/-- is a text in a text -/
def sIn (a b : Str) : Bool := match a.cps.toList with
  | [c] => decide (c ∈ b.cps.toList)
  | _ => !(Builtin.Str.occurrences b a 0 b.length 1).isEmpty
def dIn : D → D → Option D
  | x, .list ds => if SeqAt.shaped x = true ∧ SeqAt.shaped (.list ds) = true then some (.bool (ds.any fun z => PyData.eqv z x)) else none
  | x, .tuple ds => if SeqAt.shaped x = true ∧ SeqAt.shaped (.tuple ds) = true then some (.bool (ds.any fun z => PyData.eqv z x)) else none
  | .str a, .str b => some (.bool (sIn a b))
  | _, _ => none
def dNotIn : D → D → Option D
  | x, .list ds => if SeqAt.shaped x = true ∧ SeqAt.shaped (.list ds) = true then some (.bool (!ds.any fun z => PyData.eqv z x)) else none
  | x, .tuple ds => if SeqAt.shaped x = true ∧ SeqAt.shaped (.tuple ds) = true then some (.bool (!ds.any fun z => PyData.eqv z x)) else none
  | .str a, .str b => some (.bool (!sIn a b))
  | _, _ => none
def isNone : D → Bool
  | .none => true
  | _ => false
def dIs : D → D → Option D
  | x, .none => some (.bool (isNone x))
  | .bool a, .bool b => some (.bool (decide (a = b)))
  | _, _ => none
def dIsNot : D → D → Option D
  | x, .none => some (.bool (!isNone x))
  | .bool a, .bool b => some (.bool (!decide (a = b)))
  | _, _ => none
def dIx : D → D → Option D
  | .list ds, .int i => atI ds i
  | .tuple ds, .int i => atI ds i
  | .str z, .int i => if z.length ≤ sizeLine then (atI z.cps.toList i).map fun c => .str ⟨#[c]⟩ else none
  | _, _ => none

theorem Rp.t_non {K : PySem.W.Frag} {N : Addr → Prop} {H : Hp} {v : V} (h : Rp K N H v .none) : v = .non := by cases h; rfl
theorem Rp.t_bl {K : PySem.W.Frag} {N : Addr → Prop} {H : Hp} {v : V} {b : Bool} (h : Rp K N H v (.bool b)) : v = .bl b := by cases h; rfl
theorem Rp.t_int {K : PySem.W.Frag} {N : Addr → Prop} {H : Hp} {v : V} {i : Int} (h : Rp K N H v (.int i)) : v = .int i := by cases h; rfl
theorem Rp.t_str {K : PySem.W.Frag} {N : Addr → Prop} {H : Hp} {v : V} {x : Str} (h : Rp K N H v (.str x)) : v = .str x := by cases h; rfl
theorem same_rfl {H : Hp} : Same H H := fun _ _ e => e
section
variable {K : PySem.W.Frag}
abbrev rAddD (K : PySem.W.Frag) : R2 := rOr (rI0 fun i j => .int (i + j)) (rOr (fun x y H Q => ∃ i j, x = .str i ∧ y = .str j ∧ i.length + j.length ≤ sizeLine ∧ Q (.str (i ++ j)) H) (rOr (rCatL K) (rCatA K)))
theorem o_add : Op2 K dAdd (rAddD K) := by
  intro N H x y dx dy dz Q hN rx ry hz k
  unfold dAdd at hz
  split at hz
  · cases hz; cases rx; cases ry
    exact .inl ⟨_, _, rfl, rfl, k _ H same_rfl (.int _)⟩
  · split at hz
    · rename_i hl
      cases hz; cases rx; cases ry
      exact .inr (.inl ⟨_, _, rfl, rfl, hl, k _ H same_rfl (.str _)⟩)
    · cases hz
  · split at hz
    · rename_i hl
      cases hz
      obtain ⟨a, xs, rfl, hs, hl1, r1⟩ := rx.list
      obtain ⟨b, ys, rfl, ht, hl2, r2⟩ := ry.list
      have e1 := r1.length
      have e2 := r2.length
      have hl' : (xs ++ ys).length ≤ sizeLine := by rw [List.length_append]; omega
      exact .inr (.inr (.inl ⟨a, b, xs, ys, rfl, rfl, hs, ht, by omega, fun p hp => k _ _ (same_upd hp) ((Rps.append r1 r2).newL hp hl' hN)⟩))
    · cases hz
  · split at hz
    · rename_i hl
      cases hz
      obtain ⟨a, xs, rfl, hs, hl1, r1⟩ := rx.tuple
      obtain ⟨b, ys, rfl, ht, hl2, r2⟩ := ry.tuple
      have e1 := r1.length
      have e2 := r2.length
      have hl' : (xs ++ ys).length ≤ sizeLine := by rw [List.length_append]; omega
      refine .inr (.inr (.inr ⟨a, b, xs, ys, rfl, rfl, hs, ht, by omega, fun z => ?_, fun _ z => ?_, fun _ _ p hp => k _ _ (same_upd hp) ((Rps.append r1 r2).newT hp hl' hN)⟩))
      · subst z
        cases r1
        exact k _ H same_rfl ry
      · subst z
        cases r2
        rw [List.append_nil] at k
        exact k _ H same_rfl rx
    · cases hz
  · cases hz
theorem o_sub : Op2 K dSub (rI0 fun i j => .int (i - j)) := by
  intro N H x y dx dy dz Q hN rx ry hz k
  unfold dSub at hz
  split at hz
  · cases hz; cases rx; cases ry
    exact ⟨_, _, rfl, rfl, k _ H same_rfl (.int _)⟩
  · cases hz
abbrev rMulD : R2 := rOr (rI CMulW fun i j => .int (i * j)) rMulS
theorem o_mul : Op2 K dMul rMulD := by
  intro N H x y dx dy dz Q hN rx ry hz k
  unfold dMul at hz
  split at hz
  · split at hz
    · rename_i hl
      cases hz; cases rx; cases ry
      exact .inl ⟨_, _, rfl, rfl, hl, k _ H same_rfl (.int _)⟩
    · cases hz
  · split at hz
    · rename_i hl
      cases hz; cases rx; cases ry
      exact .inr ⟨_, _, rfl, rfl, hl.1, hl.2.1, hl.2.2, k _ H same_rfl (.str _)⟩
    · cases hz
  · cases hz
theorem o_mod : Op2 K dMod (rI (fun _ j => j ≠ 0) fun i j => .int (i.fmod j)) := by
  intro N H x y dx dy dz Q hN rx ry hz k
  unfold dMod at hz
  split at hz
  · split at hz
    · rename_i hl
      cases hz; cases rx; cases ry
      exact ⟨_, _, rfl, rfl, hl, k _ H same_rfl (.int _)⟩
    · cases hz
  · cases hz
theorem o_fdiv : Op2 K dFdiv (rI CDivN fun i j => .int (i.fdiv j)) := by
  intro N H x y dx dy dz Q hN rx ry hz k
  unfold dFdiv at hz
  split at hz
  · split at hz
    · rename_i hl
      cases hz; cases rx; cases ry
      exact ⟨_, _, rfl, rfl, hl, k _ H same_rfl (.int _)⟩
    · cases hz
  · cases hz
theorem o_pow : Op2 K dPow (rI CPow fun i j => .int (i ^ j.toNat)) := by
  intro N H x y dx dy dz Q hN rx ry hz k
  unfold dPow at hz
  split at hz
  · split at hz
    · rename_i hl
      cases hz; cases rx; cases ry
      exact ⟨_, _, rfl, rfl, hl, k _ H same_rfl (.int _)⟩
    · cases hz
  · cases hz
theorem o_neg : Op1 K dNeg (rU fun i => .int (-i)) := by
  intro N H x dx dz Q hN rx hz k
  unfold dNeg at hz
  split at hz
  · cases hz; cases rx
    exact ⟨_, rfl, k _ H same_rfl (.int _)⟩
  · cases hz
abbrev rEqDD (K : PySem.W.Frag) : R2 := rOr rEq (rEqD K)
abbrev rNeDD (K : PySem.W.Frag) : R2 := rOr rNe (rNeD K)
theorem dec_strV {i j : Str} : decide (V.str i = V.str j) = (i == j) := by
  rw [Bool.eq_iff_iff]
  simp
theorem o_eq : Op2 K dEq (rEqDD K) := by
  intro N H x y dx dy dz Q hN rx ry hz k
  unfold dEq at hz
  split at hz
  · cases hz
    cases rx
    cases ry
    exact .inl ⟨rfl, by rw [dec_strV]; exact k _ H same_rfl (.bl _)⟩
  · split at hz
    · rename_i hl
      cases hz
      exact .inr ⟨dx, dy, rx.dp, ry.dp, hl.1, hl.2, k _ H same_rfl (.bl _)⟩
    · cases hz
theorem o_ne : Op2 K dNe (rNeDD K) := by
  intro N H x y dx dy dz Q hN rx ry hz k
  unfold dNe at hz
  split at hz
  · cases hz
    cases rx
    cases ry
    exact .inl ⟨rfl, by rw [dec_strV]; exact k _ H same_rfl (.bl _)⟩
  · split at hz
    · rename_i hl
      cases hz
      exact .inr ⟨dx, dy, rx.dp, ry.dp, hl.1, hl.2, k _ H same_rfl (.bl _)⟩
    · cases hz
abbrev rLtD : R2 := rOr (rI0 fun i j => .bl (decide (i < j))) (fun x y H Q => ∃ i j, x = .str i ∧ y = .str j ∧ Q (.bl (decide (i.cps.toList < j.cps.toList))) H)
theorem o_lt : Op2 K dLt rLtD := by
  intro N H x y dx dy dz Q hN rx ry hz k
  unfold dLt at hz
  split at hz
  · cases hz; cases rx; cases ry
    exact .inl ⟨_, _, rfl, rfl, k _ H same_rfl (.bl _)⟩
  · cases hz; cases rx; cases ry
    exact .inr ⟨_, _, rfl, rfl, k _ H same_rfl (.bl _)⟩
  · cases hz
theorem o_gt : Op2 K dGt (rI0 fun i j => .bl (decide (j < i))) := by
  intro N H x y dx dy dz Q hN rx ry hz k
  unfold dGt at hz
  split at hz
  · cases hz; cases rx; cases ry
    exact ⟨_, _, rfl, rfl, k _ H same_rfl (.bl _)⟩
  · cases hz
theorem o_le : Op2 K dLe (rI0 fun i j => .bl (decide (i ≤ j))) := by
  intro N H x y dx dy dz Q hN rx ry hz k
  unfold dLe at hz
  split at hz
  · cases hz; cases rx; cases ry
    exact ⟨_, _, rfl, rfl, k _ H same_rfl (.bl _)⟩
  · cases hz
theorem o_ge : Op2 K dGe (rI0 fun i j => .bl (decide (j ≤ i))) := by
  intro N H x y dx dy dz Q hN rx ry hz k
  unfold dGe at hz
  split at hz
  · cases hz; cases rx; cases ry
    exact ⟨_, _, rfl, rfl, k _ H same_rfl (.bl _)⟩
  · cases hz
abbrev rInSD : R2 := rOr (fun x y H Q => ∃ (c : Nat) (z : Str), x = .str ⟨#[c]⟩ ∧ y = .str z ∧ Q (.bl (decide (c ∈ z.cps.toList))) H) (fun x y H Q => ∃ i j, x = .str i ∧ y = .str j ∧ Q (.bl (!(Builtin.Str.occurrences j i 0 j.length 1).isEmpty)) H)
abbrev rNotInSD : R2 := rOr (fun x y H Q => ∃ (c : Nat) (z : Str), x = .str ⟨#[c]⟩ ∧ y = .str z ∧ Q (.bl (!decide (c ∈ z.cps.toList))) H) (fun x y H Q => ∃ i j, x = .str i ∧ y = .str j ∧ Q (.bl (!(!(Builtin.Str.occurrences j i 0 j.length 1).isEmpty))) H)
theorem sIn_r {a b : Str} {H : Hp} {Q : VK} (h : Q (.bl (sIn a b)) H) : rInSD (.str a) (.str b) H Q := by
  unfold sIn at h
  split at h
  · rename_i c e
    refine .inl ⟨c, b, ?_, rfl, h⟩
    obtain ⟨l⟩ := a
    have e' : l = #[c] := by rw [← Array.toList_inj]; exact e
    rw [e']
  · exact .inr ⟨a, b, rfl, rfl, h⟩
theorem sNotIn_r {a b : Str} {H : Hp} {Q : VK} (h : Q (.bl (!sIn a b)) H) : rNotInSD (.str a) (.str b) H Q := by
  unfold sIn at h
  split at h
  · rename_i c e
    refine .inl ⟨c, b, ?_, rfl, h⟩
    obtain ⟨l⟩ := a
    have e' : l = #[c] := by rw [← Array.toList_inj]; exact e
    rw [e']
  · exact .inr ⟨a, b, rfl, rfl, h⟩
abbrev rInDD (K : PySem.W.Frag) : R2 := rOr (rInD K) (rOr (rInT K) rInSD)
abbrev rNotInDD (K : PySem.W.Frag) : R2 := rOr (rNotInD K) (rOr (rNotInT K) rNotInSD)
theorem o_in : Op2 K dIn (rInDD K) := by
  intro N H x y dx dy dz Q hN rx ry hz k
  unfold dIn at hz
  split at hz
  · split at hz
    · rename_i hl
      cases hz
      exact .inl ⟨_, _, rx.dp, ry.dp, hl.1, hl.2, k _ H same_rfl (.bl _)⟩
    · cases hz
  · split at hz
    · rename_i hl
      cases hz
      exact .inr (.inl ⟨_, _, rx.dp, ry.dp, hl.1, hl.2, k _ H same_rfl (.bl _)⟩)
    · cases hz
  · cases hz; cases rx; cases ry
    exact .inr (.inr (sIn_r (k _ H same_rfl (.bl _))))
  · cases hz
theorem o_notIn : Op2 K dNotIn (rNotInDD K) := by
  intro N H x y dx dy dz Q hN rx ry hz k
  unfold dNotIn at hz
  split at hz
  · split at hz
    · rename_i hl
      cases hz
      exact .inl ⟨_, _, rx.dp, ry.dp, hl.1, hl.2, k _ H same_rfl (.bl _)⟩
    · cases hz
  · split at hz
    · rename_i hl
      cases hz
      exact .inr (.inl ⟨_, _, rx.dp, ry.dp, hl.1, hl.2, k _ H same_rfl (.bl _)⟩)
    · cases hz
  · cases hz; cases rx; cases ry
    exact .inr (.inr (sNotIn_r (k _ H same_rfl (.bl _))))
  · cases hz
abbrev rIsD : R2 := rOr (fun x y H Q => y = .non ∧ Q (.bl (decide (x = .non))) H) rIsB
abbrev rIsNotD : R2 := rOr (fun x y H Q => y = .non ∧ Q (.bl (!decide (x = .non))) H) rNotB
theorem isNone_r {N : Addr → Prop} {H : Hp} {x : V} {dx : D} (r : Rp K N H x dx) : decide (x = .non) = isNone dx := by
  cases r <;> rfl
theorem o_is : Op2 K dIs rIsD := by
  intro N H x y dx dy dz Q hN rx ry hz k
  unfold dIs at hz
  split at hz
  · cases hz; cases ry
    exact .inl ⟨rfl, by rw [isNone_r rx]; exact k _ H same_rfl (.bl _)⟩
  · cases hz; cases rx; cases ry
    exact .inr ⟨_, _, rfl, rfl, k _ H same_rfl (.bl _)⟩
  · cases hz
theorem o_isNot : Op2 K dIsNot rIsNotD := by
  intro N H x y dx dy dz Q hN rx ry hz k
  unfold dIsNot at hz
  split at hz
  · cases hz; cases ry
    exact .inl ⟨rfl, by rw [isNone_r rx]; exact k _ H same_rfl (.bl _)⟩
  · cases hz; cases rx; cases ry
    exact .inr ⟨_, _, rfl, rfl, k _ H same_rfl (.bl _)⟩
  · cases hz
theorem atI_rp {N : Addr → Prop} {H : Hp} {xs : List V} {ds : List D} (r : Rps K N H xs ds) {i : Int} {z : D} (h : atI ds i = some z) : ∃ v, atI xs i = some v ∧ Rp K N H v z := by
  unfold atI at h ⊢
  rw [r.length]
  cases e : ixN ds.length i with
  | none => rw [e] at h; cases h
  | some j =>
    rw [e] at h
    exact r.get h
abbrev rIxD (K : PySem.W.Frag) : R2 := rOr (rIxL K) (rOr (rIxT K) rIxS)
theorem o_ix : Op2 K dIx (rIxD K) := by
  intro N H x y dx dy dz Q hN rx ry hz k
  unfold dIx at hz
  split at hz
  · obtain ⟨a, xs, rfl, hs, hl1, r1⟩ := rx.list
    cases ry
    obtain ⟨v, hv, rv⟩ := atI_rp r1 hz
    exact .inl ⟨a, xs, _, v, rfl, rfl, hs, hv, k _ H same_rfl rv⟩
  · obtain ⟨a, xs, rfl, hs, hl1, r1⟩ := rx.tuple
    cases ry
    obtain ⟨v, hv, rv⟩ := atI_rp r1 hz
    exact .inr (.inl ⟨a, xs, _, v, rfl, rfl, hs, hv, k _ H same_rfl rv⟩)
  · split at hz
    · rename_i z i hl
      cases rx; cases ry
      cases e : atI z.cps.toList i with
      | none => rw [e] at hz; cases hz
      | some c =>
        rw [e] at hz
        cases hz
        exact .inr (.inr ⟨z, i, c, rfl, rfl, hl, e, k _ H same_rfl (.str _)⟩)
    · cases hz
  · cases hz
end
end VL

set_option Elab.async false
set_option autoImplicit false
set_option linter.all false
set_option maxRecDepth 100000
set_option maxHeartbeats 4000000
/-! VL8: the operations' rules, the built-ins by data. -/
namespace VL
open PySem PySem.Spec PyProof.Rows L2
section
variable {gb : Bool} {X : Cx} {c : Cfg} {W : WX} {e1 e2 : Expr} {pos : Pos} {Fa Fb : Md D} {k : Nat}
theorem de_add (hK : c.K = X.K) (ha : PE X e1 (tD c W Fa)) (hb : PE X e2 (tD c W Fb)) : PE X (.BinOp e1 .Add e2 pos) (tD c W (eOp2 dAdd Fa Fb)) :=
  de_op (opor op_add (opor op_add_str (opor op_catL op_catA))) (hK ▸ o_add) ha hb
theorem de_sub (ha : PE X e1 (tD c W Fa)) (hb : PE X e2 (tD c W Fb)) : PE X (.BinOp e1 .Sub e2 pos) (tD c W (eOp2 dSub Fa Fb)) := de_op op_sub o_sub ha hb
theorem de_mul (ha : PE X e1 (tD c W Fa)) (hb : PE X e2 (tD c W Fb)) : PE X (.BinOp e1 .Mult e2 pos) (tD c W (eOp2 dMul Fa Fb)) := de_op (opor op_mulW op_mulS) o_mul ha hb
theorem de_mod (ha : PE X e1 (tD c W Fa)) (hb : PE X e2 (tD c W Fb)) : PE X (.BinOp e1 .Mod e2 pos) (tD c W (eOp2 dMod Fa Fb)) := de_op op_modN o_mod ha hb
theorem de_fdiv (ha : PE X e1 (tD c W Fa)) (hb : PE X e2 (tD c W Fb)) : PE X (.BinOp e1 .FloorDiv e2 pos) (tD c W (eOp2 dFdiv Fa Fb)) := de_op op_fdivN o_fdiv ha hb
theorem de_pow (ha : PE X e1 (tD c W Fa)) (hb : PE X e2 (tD c W Fb)) : PE X (.BinOp e1 .Pow e2 pos) (tD c W (eOp2 dPow Fa Fb)) := de_op op_pow o_pow ha hb
theorem de_neg (ha : PE X e1 (tD c W Fa)) : PE X (.UnaryOp .USub e1 pos) (tD c W (eOp1 dNeg Fa)) := de_un un_neg o_neg ha
theorem opr_eq (hr : Rm gb k X.A) : OpR X (compareOp .Eq) (rEqDD X.K) := opor op_eq (op_eqD (by have := hr.r.un; omega))
theorem opr_ne (hr : Rm gb k X.A) : OpR X (compareOp .NotEq) (rNeDD X.K) := opor op_ne (op_neD (by have := hr.r.un; omega))
theorem opr_in (hr : Rm gb k X.A) : OpR X (compareOp .In) (rInDD X.K) := opor (op_inD (by have := hr.r.un; omega)) (opor (op_inT (by have := hr.r.un; omega)) (opor op_in_sign op_in_str))
theorem opr_notIn (hr : Rm gb k X.A) : OpR X (compareOp .NotIn) (rNotInDD X.K) := opor (op_notInD (by have := hr.r.un; omega)) (opor (op_notInT (by have := hr.r.un; omega)) (opor op_notIn_sign op_notin_str))
theorem opr_lt : OpR X (compareOp .Lt) rLtD := opor op_lt op_lt_str
theorem opr_is : OpR X (compareOp .Is) rIsD := opor op_isN op_isBl
theorem opr_isNot : OpR X (compareOp .IsNot) rIsNotD := opor op_notN op_notBl
theorem de_eq (hr : Rm gb k X.A) (hK : c.K = X.K) (ha : PE X e1 (tD c W Fa)) (hb : PE X e2 (tD c W Fb)) (hm : behindInMarks .Eq e2 = false := by rfl) : PE X (.Compare e1 [.Eq] [e2] pos) (tD c W (eOp2 dEq Fa Fb)) := de_cmp (opr_eq hr) (hK ▸ o_eq) ha hb hm
theorem de_ne (hr : Rm gb k X.A) (hK : c.K = X.K) (ha : PE X e1 (tD c W Fa)) (hb : PE X e2 (tD c W Fb)) (hm : behindInMarks .NotEq e2 = false := by rfl) : PE X (.Compare e1 [.NotEq] [e2] pos) (tD c W (eOp2 dNe Fa Fb)) := de_cmp (opr_ne hr) (hK ▸ o_ne) ha hb hm
theorem de_in (hr : Rm gb k X.A) (hK : c.K = X.K) (ha : PE X e1 (tD c W Fa)) (hb : PE X e2 (tD c W Fb)) (hm : behindInMarks .In e2 = false := by rfl) : PE X (.Compare e1 [.In] [e2] pos) (tD c W (eOp2 dIn Fa Fb)) := de_cmp (opr_in hr) (hK ▸ o_in) ha hb hm
theorem de_nin (hr : Rm gb k X.A) (hK : c.K = X.K) (ha : PE X e1 (tD c W Fa)) (hb : PE X e2 (tD c W Fb)) (hm : behindInMarks .NotIn e2 = false := by rfl) : PE X (.Compare e1 [.NotIn] [e2] pos) (tD c W (eOp2 dNotIn Fa Fb)) := de_cmp (opr_notIn hr) (hK ▸ o_notIn) ha hb hm
theorem de_lt (ha : PE X e1 (tD c W Fa)) (hb : PE X e2 (tD c W Fb)) (hm : behindInMarks .Lt e2 = false := by rfl) : PE X (.Compare e1 [.Lt] [e2] pos) (tD c W (eOp2 dLt Fa Fb)) := de_cmp opr_lt o_lt ha hb hm
theorem de_gt (ha : PE X e1 (tD c W Fa)) (hb : PE X e2 (tD c W Fb)) (hm : behindInMarks .Gt e2 = false := by rfl) : PE X (.Compare e1 [.Gt] [e2] pos) (tD c W (eOp2 dGt Fa Fb)) := de_cmp op_gt o_gt ha hb hm
theorem de_le (ha : PE X e1 (tD c W Fa)) (hb : PE X e2 (tD c W Fb)) (hm : behindInMarks .LtE e2 = false := by rfl) : PE X (.Compare e1 [.LtE] [e2] pos) (tD c W (eOp2 dLe Fa Fb)) := de_cmp op_le o_le ha hb hm
theorem de_ge (ha : PE X e1 (tD c W Fa)) (hb : PE X e2 (tD c W Fb)) (hm : behindInMarks .GtE e2 = false := by rfl) : PE X (.Compare e1 [.GtE] [e2] pos) (tD c W (eOp2 dGe Fa Fb)) := de_cmp op_ge o_ge ha hb hm
theorem de_is (ha : PE X e1 (tD c W Fa)) (hb : PE X e2 (tD c W Fb)) (hm : behindInMarks .Is e2 = false := by rfl) : PE X (.Compare e1 [.Is] [e2] pos) (tD c W (eOp2 dIs Fa Fb)) := de_cmp opr_is o_is ha hb hm
theorem de_isn (ha : PE X e1 (tD c W Fa)) (hb : PE X e2 (tD c W Fb)) (hm : behindInMarks .IsNot e2 = false := by rfl) : PE X (.Compare e1 [.IsNot] [e2] pos) (tD c W (eOp2 dIsNot Fa Fb)) := de_cmp opr_isNot o_isNot ha hb hm
theorem dt_eq (hr : Rm gb k X.A) (hK : c.K = X.K) (ha : PE X e1 (tD c W Fa)) (hb : PE X e2 (tD c W Fb)) (hm : behindInMarks .Eq e2 = false := by rfl) : PT X (.Compare e1 [.Eq] [e2] pos) (tT c W (tCm dEq Fa Fb)) := dt_cmp (opr_eq hr) (hK ▸ o_eq) ha hb hm
theorem dt_ne (hr : Rm gb k X.A) (hK : c.K = X.K) (ha : PE X e1 (tD c W Fa)) (hb : PE X e2 (tD c W Fb)) (hm : behindInMarks .NotEq e2 = false := by rfl) : PT X (.Compare e1 [.NotEq] [e2] pos) (tT c W (tCm dNe Fa Fb)) := dt_cmp (opr_ne hr) (hK ▸ o_ne) ha hb hm
theorem dt_in (hr : Rm gb k X.A) (hK : c.K = X.K) (ha : PE X e1 (tD c W Fa)) (hb : PE X e2 (tD c W Fb)) (hm : behindInMarks .In e2 = false := by rfl) : PT X (.Compare e1 [.In] [e2] pos) (tT c W (tCm dIn Fa Fb)) := dt_cmp (opr_in hr) (hK ▸ o_in) ha hb hm
theorem dt_nin (hr : Rm gb k X.A) (hK : c.K = X.K) (ha : PE X e1 (tD c W Fa)) (hb : PE X e2 (tD c W Fb)) (hm : behindInMarks .NotIn e2 = false := by rfl) : PT X (.Compare e1 [.NotIn] [e2] pos) (tT c W (tCm dNotIn Fa Fb)) := dt_cmp (opr_notIn hr) (hK ▸ o_notIn) ha hb hm
theorem dt_lt (ha : PE X e1 (tD c W Fa)) (hb : PE X e2 (tD c W Fb)) (hm : behindInMarks .Lt e2 = false := by rfl) : PT X (.Compare e1 [.Lt] [e2] pos) (tT c W (tCm dLt Fa Fb)) := dt_cmp opr_lt o_lt ha hb hm
theorem dt_gt (ha : PE X e1 (tD c W Fa)) (hb : PE X e2 (tD c W Fb)) (hm : behindInMarks .Gt e2 = false := by rfl) : PT X (.Compare e1 [.Gt] [e2] pos) (tT c W (tCm dGt Fa Fb)) := dt_cmp op_gt o_gt ha hb hm
theorem dt_le (ha : PE X e1 (tD c W Fa)) (hb : PE X e2 (tD c W Fb)) (hm : behindInMarks .LtE e2 = false := by rfl) : PT X (.Compare e1 [.LtE] [e2] pos) (tT c W (tCm dLe Fa Fb)) := dt_cmp op_le o_le ha hb hm
theorem dt_ge (ha : PE X e1 (tD c W Fa)) (hb : PE X e2 (tD c W Fb)) (hm : behindInMarks .GtE e2 = false := by rfl) : PT X (.Compare e1 [.GtE] [e2] pos) (tT c W (tCm dGe Fa Fb)) := dt_cmp op_ge o_ge ha hb hm
theorem dt_is (ha : PE X e1 (tD c W Fa)) (hb : PE X e2 (tD c W Fb)) (hm : behindInMarks .Is e2 = false := by rfl) : PT X (.Compare e1 [.Is] [e2] pos) (tT c W (tCm dIs Fa Fb)) := dt_cmp opr_is o_is ha hb hm
theorem dt_isn (ha : PE X e1 (tD c W Fa)) (hb : PE X e2 (tD c W Fb)) (hm : behindInMarks .IsNot e2 = false := by rfl) : PT X (.Compare e1 [.IsNot] [e2] pos) (tT c W (tCm dIsNot Fa Fb)) := dt_cmp opr_isNot o_isNot ha hb hm
theorem de_idx (hK : c.K = X.K) (ha : PE X e1 (tD c W Fa)) (hb : PE X e2 (tD c W Fb)) (hs : PlainIx e2) : PE X (.Subscript e1 e2 pos) (tD c W (eOp2 dIx Fa Fb)) :=
  de_ix (ixor ix_list (ixor ix_tup ix_str)) (hK ▸ o_ix) ha hb hs
/-! a chain a op b op' d -/
def eCh (f g : D → D → Option D) (a b d : Md D) : Md D := bnd a fun x => bnd b fun y => bnd (lft ((f x y).bind asBool)) fun t => if t = true then bnd d fun z => lft (g y z) else fun e => .ok (.bool false) e
def tCh (f g : D → D → Option D) (a b d : Md D) : Md Bool := bnd a fun x => bnd b fun y => bnd (lft ((f x y).bind asBool)) fun t => if t = true then bnd d fun z => lft ((g y z).bind asBool) else fun e => .ok false e
theorem post_bnd_lft {α β : Type} {N0 : Addr → Prop} {S : Sx} {o : Option α} {k : α → Md β} {P : β → VL.Env → (Nat → List Addr) → Hp → Prop} (h : Post c W N0 S (bnd (lft o) k S.e) P) : ∃ x, o = some x ∧ Post c W N0 S (k x S.e) P := by
  cases o with
  | none => exact h.elim
  | some x => exact ⟨x, rfl, h⟩
theorem de_ch {op op' : CmpOp} {f g : D → D → Option D} {r r' : R2} {e3 : Expr} {Fd : Md D} (ho : OpR X (compareOp op) r) (ho' : OpR X (compareOp op') r') (hf : Op2 c.K f r) (hg : Op2 c.K g r') (ha : PE X e1 (tD c W Fa)) (hb : PE X e2 (tD c W Fb)) (hd : PE X e3 (tD c W Fd))
    (hm : lastMarks [op, op'] [e2, e3] = false := by with_unfolding_all rfl) : PE X (.Compare e1 [op, op'] [e2, e3] pos) (tD c W (eCh f g Fa Fb Fd)) := by
  refine PE.imp (pe_chain ho ho' ha hb hd hm) fun σ H Q h => ?_
  obtain ⟨N0, e, a, er, h⟩ := h
  refine bindD er h fun x e1 a1 H1 v er1 st1 rx h => ?_
  refine bindD er1 h fun y e2 a2 H2 u er2 st2 ry h => ?_
  obtain ⟨t, hz, h⟩ := post_bnd_lft (S := ⟨e2, a2, σ, H2⟩) h
  obtain ⟨d, hd, hz⟩ := Option.bind_eq_some_iff.mp hz
  refine hf _ H2 v u x y d _ er2.all_tr (rx.step st2) ry hd fun w H' s rw => ?_
  cases d with
  | bool b =>
    cases hz
    cases rw
    refine ⟨t, rfl, ?_⟩
    have er3 := er2.grow (S := ⟨e2, a2, σ, H2⟩) s
    have h3 := Post.from h (Stp.grow (S := ⟨e2, a2, σ, H2⟩) s) rfl
    cases t with
    | true =>
      refine iteT (bindD er3 h3 fun z e4 a4 H4 w4 er4 st4 rz h => ?_)
      obtain ⟨q, hq, k⟩ := post_lft (S := ⟨e4, a4, σ, H4⟩) h
      exact hg _ H4 u w4 y z q Q er4.all_tr ((ry.same s).step st4) rz hq fun w H' s rw => sameS (P := okD c N0 Q) er4 k s w rw
    | false => exact iteF (h3 a2 H' er3 (Stp.refl _) _ (.bl _))
  | _ => cases hz
theorem dt_ch {op op' : CmpOp} {f g : D → D → Option D} {r r' : R2} {e3 : Expr} {Fd : Md D} (ho : OpR X (compareOp op) r) (ho' : OpR X (compareOp op') r') (hf : Op2 c.K f r) (hg : Op2 c.K g r') (ha : PE X e1 (tD c W Fa)) (hb : PE X e2 (tD c W Fb)) (hd : PE X e3 (tD c W Fd))
    (hm : lastMarks [op, op'] [e2, e3] = false := by with_unfolding_all rfl) : PT X (.Compare e1 [op, op'] [e2, e3] pos) (tT c W (tCh f g Fa Fb Fd)) := by
  refine PT.imp (pt_chain ho ho' ha hb hd hm) fun σ H Q h => ?_
  obtain ⟨N0, e, a, er, h⟩ := h
  refine bindD er h fun x e1 a1 H1 v er1 st1 rx h => ?_
  refine bindD er1 h fun y e2 a2 H2 u er2 st2 ry h => ?_
  obtain ⟨t, hz, h⟩ := post_bnd_lft (S := ⟨e2, a2, σ, H2⟩) h
  obtain ⟨d, hd, hz⟩ := Option.bind_eq_some_iff.mp hz
  refine hf _ H2 v u x y d _ er2.all_tr (rx.step st2) ry hd fun w H' s rw => ?_
  cases d with
  | bool b =>
    cases hz
    cases rw
    refine ⟨t, rfl, ?_⟩
    have er3 := er2.grow (S := ⟨e2, a2, σ, H2⟩) s
    have h3 := Post.from h (Stp.grow (S := ⟨e2, a2, σ, H2⟩) s) rfl
    cases t with
    | true =>
      refine iteT (bindD er3 h3 fun z e4 a4 H4 w4 er4 st4 rz h => ?_)
      obtain ⟨q, hq, k⟩ := post_lft (S := ⟨e4, a4, σ, H4⟩) h
      obtain ⟨d4, hd4, hq⟩ := Option.bind_eq_some_iff.mp hq
      refine hg _ H4 u w4 y z d4 _ er4.all_tr ((ry.same s).step st4) rz hd4 fun w H' s rw => ?_
      cases d4 with
      | bool b4 =>
        cases hq
        cases rw
        exact ⟨_, rfl, sameS (P := okT Q) er4 k s⟩
      | _ => cases hq
    | false => exact iteF ⟨_, rfl, h3 a2 H' er3 (Stp.refl _)⟩
  | _ => cases hz
end

/-! ### built-ins -/
def dLen : List D → Option D
  | [.str z] => if z.length ≤ sizeLine then some (.int z.length) else none
  | [.list ds] => some (.int ds.length)
  | [.tuple ds] => some (.int ds.length)
  | _ => none
def dInt : List D → Option D
  | [.int i] => some (.int i)
  | [.bool b] => some (.int (if b then 1 else 0))
  | [.str a] => if a.length ≤ 640 then (PySem.intText? a).map .int else none
  | _ => none
def dStr : List D → Option D
  | [.int i] => if i.natAbs.log2 < 1920 then some (.str (toString i)) else none
  | [.str a] => some (.str a)
  | _ => none
def unBools : List D → Option (List Bool)
  | [] => some []
  | .bool b :: l => (unBools l).map (b :: ·)
  | _ => none
def dAll : List D → Option D
  | [.list ds] => (unBools ds).map fun bs => .bool (bs.all id)
  | _ => none
def dAny : List D → Option D
  | [.list ds] => (unBools ds).map fun bs => .bool (bs.any id)
  | _ => none
def dToL : List D → Option D
  | [.list ds] => some (.list ds)
  | [.tuple ds] => some (.list ds)
  | _ => none
def dToT : List D → Option D
  | [.list ds] => some (.tuple ds)
  | [.tuple ds] => some (.tuple ds)
  | _ => none
def dRepr : List D → Option D
  | [x] => if PyData.showable x = true ∧ x.hasDict = false ∧ x.depth ≤ 60 ∧ x.shown.length ≤ sizeLine then some (.str x.shown) else none
  | _ => none
section
variable {K : PySem.W.Frag}
theorem Rps.one {N : Addr → Prop} {H : Hp} {xs : List V} {d : D} (h : Rps K N H xs [d]) : ∃ x, xs = [x] ∧ Rp K N H x d := by
  cases h with
  | cons h t => cases t; exact ⟨_, rfl, h⟩
theorem Rps.two {N : Addr → Prop} {H : Hp} {xs : List V} {d d2 : D} (h : Rps K N H xs [d, d2]) : ∃ x y, xs = [x, y] ∧ Rp K N H x d ∧ Rp K N H y d2 := by
  cases h with
  | cons h t =>
    obtain ⟨y, rfl, r⟩ := t.one
    exact ⟨_, _, rfl, h, r⟩
abbrev rLenD (K : PySem.W.Frag) : List V → Hp → VK → Prop := fun xs H Q => ∃ x n, xs = [x] ∧ LenV K x H n ∧ Q (.int n) H
theorem o_len : OpN K dLen (rLenD K) := by
  intro N H xs ds dz Q hN rs hz k
  unfold dLen at hz
  split at hz
  · split at hz
    · rename_i hl
      cases hz
      obtain ⟨x, rfl, r⟩ := rs.one
      cases r
      exact ⟨_, _, rfl, ⟨hl, rfl⟩, k _ H same_rfl (.int _)⟩
    · cases hz
  · cases hz
    obtain ⟨x, rfl, r⟩ := rs.one
    obtain ⟨a, xs, rfl, hs, hl1, r1⟩ := r.list
    exact ⟨_, _, rfl, .inl ⟨xs, hs, r1.length.symm⟩, k _ H same_rfl (.int _)⟩
  · cases hz
    obtain ⟨x, rfl, r⟩ := rs.one
    obtain ⟨a, xs, rfl, hs, hl1, r1⟩ := r.tuple
    exact ⟨_, _, rfl, .inr ⟨xs, hs, r1.length.symm⟩, k _ H same_rfl (.int _)⟩
  · cases hz
abbrev rIntD : List V → Hp → VK → Prop := cOr (fun xs H Q => (∃ i, xs = [.int i] ∧ Q (.int i) H) ∨ ∃ k, xs = [.bl k] ∧ Q (.int (if k then 1 else 0)) H) (fun xs H Q => ∃ a n, xs = [.str a] ∧ PySem.intText? a = some n ∧ a.length ≤ 640 ∧ Q (.int n) H)
theorem o_int : OpN K dInt rIntD := by
  intro N H xs ds dz Q hN rs hz k
  unfold dInt at hz
  split at hz
  · cases hz
    obtain ⟨x, rfl, r⟩ := rs.one
    cases r
    exact .inl (.inl ⟨_, rfl, k _ H same_rfl (.int _)⟩)
  · cases hz
    obtain ⟨x, rfl, r⟩ := rs.one
    cases r
    exact .inl (.inr ⟨_, rfl, k _ H same_rfl (.int _)⟩)
  · split at hz
    · rename_i a hl
      obtain ⟨x, rfl, r⟩ := rs.one
      cases r
      cases e : PySem.intText? a with
      | none => rw [e] at hz; cases hz
      | some n =>
        rw [e] at hz
        cases hz
        exact .inr ⟨a, n, rfl, e, hl, k _ H same_rfl (.int _)⟩
    · cases hz
  · cases hz
abbrev rStrD : List V → Hp → VK → Prop := cOr (fun xs H Q => ∃ i, xs = [.int i] ∧ i.natAbs.log2 < 1920 ∧ Q (.str (toString i)) H) (fun xs H Q => ∃ a, xs = [.str a] ∧ Q (.str a) H)
theorem o_str : OpN K dStr rStrD := by
  intro N H xs ds dz Q hN rs hz k
  unfold dStr at hz
  split at hz
  · split at hz
    · rename_i hl
      cases hz
      obtain ⟨x, rfl, r⟩ := rs.one
      cases r
      exact .inl ⟨_, rfl, hl, k _ H same_rfl (.str _)⟩
    · cases hz
  · cases hz
    obtain ⟨x, rfl, r⟩ := rs.one
    cases r
    exact .inr ⟨_, rfl, k _ H same_rfl (.str _)⟩
  · cases hz
theorem unBools_v {N : Addr → Prop} {H : Hp} : ∀ {xs : List V} {ds : List D} {bs : List Bool}, Rps K N H xs ds → unBools ds = some bs → xs = bs.map V.bl
  | _, _, _, .nil, e => by cases e; rfl
  | _, _, bs, .cons (d := d) (ds := ds) h t, e => by
    cases h with
    | bl b =>
      have e' : (unBools ds).map (b :: ·) = some bs := e
      cases e2 : unBools ds with
      | none => rw [e2] at e'; cases e'
      | some l =>
        rw [e2] at e'
        cases e'
        rw [unBools_v t e2]; rfl
    | _ => cases e
theorem o_all : OpN K dAll (rAll K) := by
  intro N H xs ds dz Q hN rs hz k
  unfold dAll at hz
  split at hz
  · rename_i l
    obtain ⟨x, rfl, r⟩ := rs.one
    obtain ⟨a, xs, rfl, hs, hl1, r1⟩ := r.list
    cases e : unBools l with
    | none => rw [e] at hz; cases hz
    | some bs =>
      rw [e] at hz; cases hz
      exact ⟨a, bs, rfl, unBools_v r1 e ▸ hs, k _ H same_rfl (.bl _)⟩
  · cases hz
theorem o_any : OpN K dAny (rAny K) := by
  intro N H xs ds dz Q hN rs hz k
  unfold dAny at hz
  split at hz
  · rename_i l
    obtain ⟨x, rfl, r⟩ := rs.one
    obtain ⟨a, xs, rfl, hs, hl1, r1⟩ := r.list
    cases e : unBools l with
    | none => rw [e] at hz; cases hz
    | some bs =>
      rw [e] at hz; cases hz
      exact ⟨a, bs, rfl, unBools_v r1 e ▸ hs, k _ H same_rfl (.bl _)⟩
  · cases hz
abbrev rToL (K : PySem.W.Frag) : List V → Hp → VK → Prop := fun xs H Q => ∃ p ys, xs = [.ref p] ∧ (SqL K H p ys ∨ SqT K H p ys) ∧ ∀ l, H l = none → Q (.ref l) (upd H l (.lst ys))
theorem o_toL : OpN K dToL (rToL K) := by
  intro N H xs ds dz Q hN rs hz k
  unfold dToL at hz
  split at hz
  · cases hz
    obtain ⟨x, rfl, r⟩ := rs.one
    obtain ⟨a, xs, rfl, hs, hl1, r1⟩ := r.list
    exact ⟨a, xs, rfl, .inl hs, fun p hp => k _ _ (same_upd hp) (r1.newL hp hl1 hN)⟩
  · cases hz
    obtain ⟨x, rfl, r⟩ := rs.one
    obtain ⟨a, xs, rfl, hs, hl1, r1⟩ := r.tuple
    exact ⟨a, xs, rfl, .inr hs, fun p hp => k _ _ (same_upd hp) (r1.newL hp hl1 hN)⟩
  · cases hz
abbrev rToT (K : PySem.W.Frag) : List V → Hp → VK → Prop := fun xs H Q => ∃ p ys, xs = [.ref p] ∧ ((SqL K H p ys ∧ ∀ l, H l = none → Q (.ref l) (upd H l (.tup ys))) ∨ (SqT K H p ys ∧ Q (.ref p) H))
theorem o_toT : OpN K dToT (rToT K) := by
  intro N H xs ds dz Q hN rs hz k
  unfold dToT at hz
  split at hz
  · cases hz
    obtain ⟨x, rfl, r⟩ := rs.one
    obtain ⟨a, xs, rfl, hs, hl1, r1⟩ := r.list
    exact ⟨a, xs, rfl, .inl ⟨hs, fun p hp => k _ _ (same_upd hp) (r1.newT hp hl1 hN)⟩⟩
  · cases hz
    obtain ⟨x, rfl, r⟩ := rs.one
    obtain ⟨a, xs, rfl, hs, hl1, r1⟩ := id r.tuple
    exact ⟨a, xs, rfl, .inr ⟨hs, k _ H same_rfl r⟩⟩
  · cases hz
/-! repr -/
def rReprD (K : PySem.W.Frag) : List V → Hp → VK → Prop := fun xs H Q => ∃ x d, xs = [x] ∧ Dp K H x d ∧ PyData.showable d = true ∧ d.hasDict = false ∧ d.depth ≤ 60 ∧ d.shown.length ≤ sizeLine ∧ Q (.str d.shown) H
theorem o_repr : OpN K dRepr (rReprD K) := by
  intro N H xs ds dz Q hN rs hz k
  unfold dRepr at hz
  split at hz
  · split at hz
    · rename_i d hl
      cases hz
      obtain ⟨x, rfl, r⟩ := rs.one
      exact ⟨x, d, rfl, r.dp, hl.1, hl.2.1, hl.2.2.1, hl.2.2.2, k _ H same_rfl (.str _)⟩
    · cases hz
  · cases hz
end
theorem call_reprD {X : Cx} {k : Nat} (hr : Rm true k X.A) : CallR X (.builtin "repr") (rReprD X.K) := by
  intro pins s σ H xs us Q I r h
  obtain ⟨x, d, rfl, hd, hs, hn, hp, hz, q⟩ := h
  obtain ⟨u, rfl, ru⟩ := vals1 r
  obtain ⟨as, rd⟩ := Dp.reads I d x u hd ru
  cases d with
  | none => cases rd; rw [PyData.shown_none] at q; exact PySem.P.repr_of_none ⟨.str _, H, I.tok _, ⟨_, rfl⟩, q⟩
  | bool b => cases rd; rw [PyData.shown_bool] at q; exact PySem.P.repr_of_bool ⟨.str _, H, I.tok _, ⟨_, rfl⟩, q⟩
  | int i => cases rd; rw [PyData.shown_int] at q; exact PySem.P.repr_of_int (by simpa [PyData.showable] using hs) ⟨.str _, H, I.tok _, ⟨_, rfl⟩, q⟩
  | str z => cases rd; rw [PyData.shown_str] at q hz; exact PySem.P.repr_of_str ⟨.str _, H, I.tok _, ⟨_, rfl⟩, q⟩ hz
  | list ds =>
    obtain ⟨a, rfl⟩ := isRef_of_reads rd rfl
    exact repr_of_reads' rd hs (PyData.noDict_hsm hn) (hr.g rfl) (by have := hr.r.un; omega) (fun _ _ e => e) (fun h' u tk hk => ⟨.str _, H, I.kept hk, ⟨_, rfl⟩, q⟩) hz
  | tuple ds =>
    obtain ⟨a, rfl⟩ := isRef_of_reads rd rfl
    exact repr_of_reads' rd hs (PyData.noDict_hsm hn) (hr.g rfl) (by have := hr.r.un; omega) (fun _ _ e => e) (fun h' u tk hk => ⟨.str _, H, I.kept hk, ⟨_, rfl⟩, q⟩) hz
  | dict kvs => cases hd
end VL

set_option Elab.async false
set_option autoImplicit false
set_option linter.all false
set_option maxRecDepth 100000
set_option maxHeartbeats 4000000
/-! VL9: own things: lists, dicts, instances. -/
namespace VL
open PySem PySem.Spec PyProof.Rows L2 LamX
section
variable {c : Cfg} {N0 : Addr → Prop} {v : V}
/-- a new own thing as a result behind the slots -/
theorem ER.push_o {e : Env} {a : Nat → List Addr} {σ : L2.St} {H H' : Hp} {sv : SV} {as' : List Addr} (h : ER c N0 ⟨e, a, σ, H⟩) (hx : Same H H') (ha : ∀ p ∈ as', H p = none) (hn : as'.Nodup)
    (hs : Sr c (NN N0 (fup a e.length as')) H' v sv as') (o' : sv ≠ .unset) :
    ER c N0 ⟨e ++ [sv], fup a e.length as', σ ++ [some v], H'⟩ ∧ Stp c ⟨e, a, σ, H⟩ ⟨e ++ [sv], fup a e.length as', σ ++ [some v], H'⟩ := by
  have hl : σ.length = e.length := h.len
  have z0 : a e.length = [] := h.zero e.length (.inl (by show e[e.length]? = none; simp))
  have at_ : ∀ k p, p ∈ fup a e.length as' k → (k = e.length ∧ p ∈ as') ∨ (k ≠ e.length ∧ p ∈ a k) := fun k p hp => by
    by_cases hk : k = e.length
    · rw [hk, fup_self] at hp; exact .inl ⟨hk, hp⟩
    · rw [fup_ne hk] at hp; exact .inr ⟨hk, hp⟩
  have nw : ∀ k p, p ∈ fup a e.length as' k → (∃ j, p ∈ a j) ∨ H p = none := fun k p hp => by
    rcases at_ k p hp with ⟨_, m⟩ | ⟨_, m⟩
    · exact .inr (ha p m)
    · exact .inl ⟨k, m⟩
  have nn : ∀ p, NN N0 (fup a e.length as') p → NN N0 a p ∨ NTrk H p := fun p hp => by
    rcases hp with hp | ⟨k, m⟩
    · exact .inl (.inl hp)
    · exact (nw k p m).imp .inr NTrk.of
  have key : ∀ i su, (e ++ [sv])[i]? = some su → (e[i]? = some su ∧ i < e.length) ∨ (i = e.length ∧ su = sv) := fun i su q => by
    by_cases hi : i < e.length
    · rw [List.getElem?_append_left hi] at q; exact .inl ⟨q, hi⟩
    · rw [List.getElem?_append_right (by omega)] at q
      have hlt := (List.getElem?_eq_some_iff.mp q).1
      have e0 : i - e.length = 0 := by simpa using hlt
      rw [e0] at q
      cases q
      exact .inr ⟨by omega, rfl⟩
  refine ⟨⟨by show (σ ++ [some v]).length = (e ++ [sv]).length; simpa using hl, fun i su q => ?_, fun i q => ?_, fun k => ?_, fun j k p h1 h2 => ?_, fun k p h1 => ?_, fun p hp => let ⟨o, e1, t⟩ := h.tr p hp; ⟨o, hx p o e1, t⟩, fun p hp => (h.tb p hp).ext hx⟩, .of h (by simp) (fun b ob e1 _ => hx b ob e1) nw (fun k su hk z oo => ?_)⟩
  · rcases key i su q with ⟨q, hi⟩ | ⟨hi, z⟩
    · rcases h.slot i su q with z | ⟨u, e1, s1⟩
      · exact .inl z
      · refine .inr ⟨u, by show (σ ++ [some v])[i]? = _; rw [List.getElem?_append_left (by omega)]; exact e1, ?_⟩
        show Sr c _ H' u su (fup a e.length as' i)
        rw [fup_ne (by omega)]
        exact s1.move (O := fun _ => False) (fun b ob e1 _ _ => hx b ob e1) (fun _ m => m.elim) nn fun _ _ m => m
    · subst hi; subst z
      refine .inr ⟨v, by show (σ ++ [some v])[e.length]? = _; rw [← hl]; simp, ?_⟩
      show Sr c _ H' v su (fup a e.length as' e.length)
      rw [fup_self]
      exact hs
  · have q : (e ++ [sv])[i]? = none ∨ (e ++ [sv])[i]? = some .unset := q
    show fup a e.length as' i = []
    rcases q with q | q
    · have : (e ++ [sv]).length ≤ i := List.getElem?_eq_none_iff.mp q
      simp at this
      rw [fup_ne (by omega)]
      exact h.zero i (.inl (List.getElem?_eq_none (by show e.length ≤ i; omega)))
    · rcases key i _ q with ⟨q, hi⟩ | ⟨hi, z⟩
      · rw [fup_ne (by omega)]
        exact h.zero i (.inr q)
      · exact absurd z.symm o'
  · show (fup a e.length as' k).Nodup
    by_cases hk : k = e.length
    · rw [hk, fup_self]; exact hn
    · rw [fup_ne hk]; exact h.nd k
  · rcases at_ j p h1 with ⟨e1, m1⟩ | ⟨n1, m1⟩ <;> rcases at_ k p h2 with ⟨e2, m2⟩ | ⟨n2, m2⟩
    · exact e1.trans e2.symm
    · exact absurd (ha p m1) (h.own_tr k p m2)
    · exact absurd (ha p m2) (h.own_tr j p m1)
    · exact h.dj _ _ p m1 m2
  · rcases at_ k p h1 with ⟨e1, m1⟩ | ⟨n1, m1⟩
    · exact fun y => h.trn p y (ha p m1)
    · exact h.n0 k p m1
  · have z : (e ++ [sv])[k]? = some su := z
    rcases key k su z with ⟨q, hi⟩ | ⟨hi, z⟩
    · exact ⟨by show (σ ++ [some v])[k]? = _; rw [List.getElem?_append_left (by omega)], su, q, oo⟩
    · exact absurd hk.2 (by show ¬ k < e.length; omega)
/-- what is tracked is not new -/
theorem nn_new {e : Env} {a : Nat → List Addr} {σ : L2.St} {H : Hp} (h : ER c N0 ⟨e, a, σ, H⟩) {k : Nat} {as' : List Addr} (ha : ∀ p ∈ as', H p = none) (hz : a k = []) : ∀ p, NN N0 (fup a k as') p → NN N0 a p ∨ NTrk H p := fun p hp => by
  rcases hp with hp | ⟨i, m⟩
  · exact .inl (.inl hp)
  · by_cases hk : i = k
    · rw [hk, fup_self] at m; exact .inr (NTrk.of (ha p m))
    · rw [fup_ne hk] at m; exact .inl (.inr ⟨i, m⟩)
end
section
variable {X : Cx} {c : Cfg} {W : WX} {e e1 : Expr} {es : List Expr} {pos : Pos} {F : Md D} {FL : Md (List D)}
/-! ### own lists -/
/-- [..] as an own list -/
def oLst (l : Md (List D)) : Md SV := bnd l fun xs e => if xs.length ≤ sizeLine then .ok (.ol xs) e else .stuck
theorem obindD {N0 : Addr → Prop} {e : Env} {a : Nat → List Addr} {σ : L2.St} {H : Hp} {F : Md D} {k : D → Md SV} {Q R : VK} (er : ER c N0 ⟨e, a, σ, H⟩) (h : PostO c W N0 ⟨e, a, σ, H⟩ (bnd F k e) Q)
    (g : ∀ x e1 a1 H1 v, ER c N0 ⟨e1, a1, σ, H1⟩ → Stp c ⟨e, a, σ, H⟩ ⟨e1, a1, σ, H1⟩ → Rp c.K (NN N0 a1) H1 v x → PostO c W N0 ⟨e1, a1, σ, H1⟩ (k x e1) Q → R v H1) : tD c W F σ H R := by
  refine ⟨N0, e, a, er, ?_⟩
  unfold bnd at h
  revert h
  generalize F e = r
  cases r with
  | ok x e1 => exact fun h a1 H1 er1 st v rv => g x e1 a1 H1 v er1 st rv (PostO.from h st rfl)
  | err cn fs e1 => exact fun h => h
  | stuck => exact fun h => h
theorem obindL {N0 : Addr → Prop} {e : Env} {a : Nat → List Addr} {σ : L2.St} {H : Hp} {F : Md (List D)} {k : List D → Md SV} {Q : VK} {R : List V → Hp → Prop} (er : ER c N0 ⟨e, a, σ, H⟩) (h : PostO c W N0 ⟨e, a, σ, H⟩ (bnd F k e) Q)
    (g : ∀ x e1 a1 H1 v, ER c N0 ⟨e1, a1, σ, H1⟩ → Stp c ⟨e, a, σ, H⟩ ⟨e1, a1, σ, H1⟩ → Rps c.K (NN N0 a1) H1 v x → PostO c W N0 ⟨e1, a1, σ, H1⟩ (k x e1) Q → R v H1) : tL c W F σ H R := by
  refine ⟨N0, e, a, er, ?_⟩
  unfold bnd at h
  revert h
  generalize F e = r
  cases r with
  | ok x e1 => exact fun h a1 H1 er1 st v rv => g x e1 a1 H1 v er1 st rv (PostO.from h st rfl)
  | err cn fs e1 => exact fun h => h
  | stuck => exact fun h => h
theorem do_lst (ha : PA X es (tL c W FL)) : PE X (.List es pos) (tO c W (oLst FL)) := by
  refine PE.imp (pe_lst ha) fun σ H Q h => ?_
  obtain ⟨N0, e, a, er, h⟩ := h
  refine obindL er h fun xs e1 a1 H1 vs er1 st1 rx h => ?_
  obtain ⟨hl, h⟩ := h.ite
  have hl' : vs.length ≤ sizeLine := by rw [rx.length]; exact hl
  refine ⟨hl', fun p hp => ?_⟩
  have q := er1.push_o (v := .ref p) (sv := .ol xs) (as' := [p]) (H' := upd H1 p (.lst vs)) (same_upd hp) (fun q hq => by rw [List.mem_singleton.mp hq]; exact hp) (by simp)
    (.ol upd_same hl' (rx.move (O := fun _ => False) (fun b o e _ _ => same_upd hp b o e) (fun _ z => z.elim) (nn_new er1 (fun q hq => by rw [List.mem_singleton.mp hq]; exact hp) (er1.zero _ (.inl (by simp)))))) (fun z => nomatch z)
  exact h _ _ _ q.1 q.2
def isOl (e : Env) (i : Nat) : Bool := match e[i]? with
  | some (.ol _) => true
  | _ => false
/-- name.m(..) of an own list: f gives the answer and the new contents -/
def oLm (i : Nat) (f : List D → List D → Option (D × List D)) (FL : Md (List D)) : Md SV := fun e0 => if isOl e0 i = true then bnd FL (fun xs e => match e[i]? with
  | some (.ol ds) => match f ds xs with
    | some (r, ds') => .ok (.d r) (e.set i (.ol ds'))
    | none => .stuck
  | _ => .stuck) e0 else .stuck
def OpW (K : PySem.W.Frag) (f : List D → List D → Option (D × List D)) (r : V → List V → Hp → VK → Prop) : Prop := ∀ (N : Addr → Prop) (H : Hp) (l : Addr) (ws xs : List V) (ds as : List D) (z : D) (ds' : List D) (Q : VK), N l → H l = some (.lst ws) → ws.length ≤ sizeLine → Rps K N H ws ds → Rps K N H xs as → f ds as = some (z, ds') →
  (∀ v ws', ws'.length ≤ sizeLine → Rps K N H ws' ds' → Rp K N H v z → Q v (upd H l (.lst ws'))) → r (.ref l) xs H Q
theorem Rp.updN {K : PySem.W.Frag} {N : Addr → Prop} {H : Hp} {l : Addr} {o : HO} {v : V} {x : D} (h : Rp K N H v x) (hl : N l) : Rp K N (upd H l o) v x :=
  h.move (O := fun b => b = l) (fun b ob e n _ => by rw [upd_ne n]; exact e) (fun p z => z ▸ hl) fun _ z => .inl z
theorem isOl_of {e : Env} {i : Nat} (h : isOl e i = true) : ∃ ds, e[i]? = some (.ol ds) := by
  unfold isOl at h
  split at h
  · exact ⟨_, by assumption⟩
  · cases h
theorem do_lm (i : Nat) {x name : Str} {id : String} {p1 apos cpos : Pos} {f : List D → List D → Option (D × List D)} {r : V → List V → Hp → VK → Prop} (hK : c.K = X.K) (slot : Slot "list" name id) (hty : typeOf (.builtin id) = pure (.type "method_descriptor")) (hm : MtR X id r) (hf : OpW c.K f r)
    (hN : X.N[i]? = some x) (hv : Vis X.env.scope x) (ha : PA X (e :: es) (tL c W FL)) (hd : (x == ("__debug__" : Str)) = false := by decide +kernel) (hcd : (x == ("__classdict__" : Str)) = false := by decide +kernel)
    (hbase : attributeBase (.Name x p1) name X.env (eval (.Name x p1) X.env) = eval (.Name x p1) X.env := by rfl)
    (hfew : ((backTo cpos (starEach (e :: es) X.env)).all (fun x => !x.1) && (backToKw cpos (keywordEach [] X.env)).all (fun x => x.1.isSome)
      && decide ((e :: es).length + ([] : List Keyword).length + (if ([] : List Keyword).isEmpty then 0 else 1) < 30)) = true := by rfl)
    (hline : (apos.endLine == cpos.line) = true := by rfl) (hs : starEach (e :: es) X.env = (false, eval e X.env) :: starEach es X.env := by rfl) (hplain : (backTo cpos (starEach es X.env)).any (·.1) = false := by rfl) :
    PE X (.Call (.Attribute (.Name x p1) name apos) (e :: es) [] cpos) (tO c W (oLm i f FL)) := by
  refine PE.imp (pe_bm PySem.F.plainAttrs_list slot hty hm (pe_var (i := i) hN hv hd hcd) ha hbase hfew hline hs hplain) fun σ H Q h => ?_
  obtain ⟨N0, e0, a0, er, h⟩ := h
  unfold oLm at h
  obtain ⟨ho, h⟩ := h.ite
  obtain ⟨ds0, h0⟩ := isOl_of ho
  obtain ⟨p, vs0, hσ, hp0, _, _, _⟩ := er.get_ol h0
  refine ⟨.ref p, hσ, .inl ⟨rfl, vs0, hK ▸ .inl (.inl hp0)⟩, ?_⟩
  refine obindL er h fun xs e1 a1 H1 vs er1 st1 rx h => ?_
  revert h
  cases h1 : e1[i]? with
  | none => exact fun h => h.elim
  | some sv =>
    cases sv with
    | ol ds =>
      intro h
      obtain ⟨q, ws, hσ1, hq, hz, rw', ha⟩ := er1.get_ol h1
      have e' : q = p := by
        have hσ1 : σ[i]? = _ := hσ1
        have hσ : σ[i]? = _ := hσ
        rw [hσ] at hσ1; cases hσ1; rfl
      subst e'
      cases hff : f ds xs with
      | none =>
        simp only [hff] at h
        exact h.elim
      | some zd =>
        obtain ⟨z, ds'⟩ := zd
        simp only [hff] at h
        have hn : NN N0 a1 q := .inr ⟨i, by show q ∈ a1 i; rw [show a1 i = [q] from ha]; simp⟩
        refine hf _ H1 q ws vs ds xs z ds' Q hn hq hz rw' rx hff fun v ws' hz' rw2 rv => ?_
        have k := er1.upd_ol (i := i) (ds' := ds') h1 hσ1 ha hz' rw2
        have k2 := k.1.push_d (v := v) (x := z) (rv.updN hn)
        exact h _ _ v k2.1 (k2.2 _ k.2)
    | _ => exact fun h => h.elim
theorem do_lm0 (i : Nat) {x name : Str} {id : String} {p1 apos cpos : Pos} {f : List D → List D → Option (D × List D)} {r : V → List V → Hp → VK → Prop} (hK : c.K = X.K) (slot : Slot "list" name id) (hty : typeOf (.builtin id) = pure (.type "method_descriptor")) (hm : MtR X id r) (hf : OpW c.K f r)
    (hN : X.N[i]? = some x) (hv : Vis X.env.scope x) (hd : (x == ("__debug__" : Str)) = false := by decide +kernel) (hcd : (x == ("__classdict__" : Str)) = false := by decide +kernel)
    (hbase : attributeBase (.Name x p1) name X.env (eval (.Name x p1) X.env) = eval (.Name x p1) X.env := by rfl) (hline : (apos.endLine == cpos.line) = true := by rfl) :
    PE X (.Call (.Attribute (.Name x p1) name apos) [] [] cpos) (tO c W (oLm i f aNil)) := by
  refine PE.imp (pe_bm0 PySem.F.plainAttrs_list slot hty hm (pe_var (i := i) hN hv hd hcd) hbase hline) fun σ H Q h => ?_
  obtain ⟨N0, e0, a0, er, h⟩ := h
  unfold oLm at h
  obtain ⟨ho, h⟩ := h.ite
  obtain ⟨ds0, h0⟩ := isOl_of ho
  obtain ⟨p, ws, hσ, hp0, hz, rw', ha⟩ := er.get_ol h0
  refine ⟨.ref p, hσ, .inl ⟨rfl, ws, hK ▸ .inl (.inl hp0)⟩, ?_⟩
  unfold bnd aNil at h
  have h0' : e0[i]? = some (.ol ds0) := h0
  simp only [h0'] at h
  cases hff : f ds0 [] with
  | none =>
    simp only [hff] at h
    exact h.elim
  | some zd =>
    obtain ⟨z, ds'⟩ := zd
    simp only [hff] at h
    have hn : NN N0 a0 p := .inr ⟨i, by show p ∈ a0 i; rw [show a0 i = [p] from ha]; simp⟩
    refine hf _ H p ws [] ds0 [] z ds' Q hn hp0 hz rw' .nil hff fun v ws' hz' rw2 rv => ?_
    have k := er.upd_ol (i := i) (ds' := ds') h0 hσ ha hz' rw2
    have k2 := k.1.push_d (v := v) (x := z) (rv.updN hn)
    exact h _ _ v k2.1 (k2.2 _ k.2)
def wAppend (ds : List D) : List D → Option (D × List D)
  | [x] => if ds.length < sizeLine then some (.none, ds ++ [x]) else none
  | _ => none
theorem w_append {K : PySem.W.Frag} : OpW K wAppend rAppend := by
  intro N H l ws xs ds as z ds' Q hn hl hz rw' rx hf k
  unfold wAppend at hf
  split at hf
  · split at hf
    · rename_i hlt
      cases hf
      obtain ⟨x, rfl, r⟩ := rx.one
      have e := rw'.length
      exact ⟨l, ws, x, rfl, rfl, hl, by omega, k _ _ (by rw [List.length_append]; show ws.length + 1 ≤ _; omega) (rw'.last r) .non⟩
    · cases hf
  · cases hf
theorem do_app (i : Nat) {x : Str} {p1 apos cpos : Pos} (hK : c.K = X.K) (hN : X.N[i]? = some x) (hv : Vis X.env.scope x) (he : PE X e (tD c W F)) (hd : (x == ("__debug__" : Str)) = false := by decide +kernel) (hcd : (x == ("__classdict__" : Str)) = false := by decide +kernel)
    (hbase : attributeBase (.Name x p1) "append" X.env (eval (.Name x p1) X.env) = eval (.Name x p1) X.env := by rfl)
    (hfew : ((backTo cpos (starEach [e] X.env)).all (fun x => !x.1) && (backToKw cpos (keywordEach [] X.env)).all (fun x => x.1.isSome)
      && decide ([e].length + ([] : List Keyword).length + (if ([] : List Keyword).isEmpty then 0 else 1) < 30)) = true := by rfl)
    (hline : (apos.endLine == cpos.line) = true := by rfl) (hs : starEach [e] X.env = (false, eval e X.env) :: starEach [] X.env := by rfl) (hplain : (backTo cpos (starEach [] X.env)).any (·.1) = false := by rfl) :
    PE X (.Call (.Attribute (.Name x p1) "append" apos) [e] [] cpos) (tO c W (oLm i wAppend (aCons F aNil))) :=
  do_lm i hK PySem.F.slot_list_append PySem.F.type_list_append mt_append w_append hN hv (da_cons he da_nil hs) hd hcd hbase hfew hline hs hplain

/-! ### an own list looked at -/
def isScal : D → Bool
  | .none => true
  | .bool _ => true
  | .int _ => true
  | .str _ => true
  | _ => false
theorem Rp.scal {K : PySem.W.Frag} {N N' : Addr → Prop} {H H' : Hp} {v : V} {x : D} (h : Rp K N H v x) (s : isScal x = true) : Rp K N' H' v x := by
  cases h with
  | non => exact .non
  | bl b => exact .bl b
  | int i => exact .int i
  | str x => exact .str x
  | _ => cases s
/-- f of an own list, the answer a plain one -/
def ePk1 (i : Nat) (f : List D → Option D) : Md D := fun e => match e[i]? with
  | some (.ol ds) => match f [.list ds] with
    | some z => if isScal z = true then .ok z e else .stuck
    | none => .stuck
  | _ => .stuck
theorem ER.peek {N0 : Addr → Prop} {S : Sx} {i : Nat} {ds : List D} (h : ER c N0 S) (e : S.e[i]? = some (.ol ds)) : ∃ p, S.s[i]? = some (some (.ref p)) ∧ Rp c.K (fun _ => False) S.h (.ref p) (.list ds) := by
  obtain ⟨p, vs, h1, h2, h3, h4, _⟩ := h.get_ol e
  exact ⟨p, h1, .lst (.inl h2) (fun z => z) h3 (h4.mono fun _ z => z.elim)⟩
theorem pk1_post {N0 : Addr → Prop} {e : Env} {a : Nat → List Addr} {σ : L2.St} {H : Hp} {i : Nat} {f : List D → Option D} {r : List V → Hp → VK → Prop} {Q : VK} (hf : OpN c.K f r) (er : ER c N0 ⟨e, a, σ, H⟩) (h : Post c W N0 ⟨e, a, σ, H⟩ (ePk1 i f e) (okD c N0 Q)) :
    ∃ p, σ[i]? = some (some (.ref p)) ∧ r [.ref p] H Q := by
  unfold ePk1 at h
  revert h
  cases h1 : e[i]? with
  | none => exact fun h => h.elim
  | some sv =>
    cases sv with
    | ol ds =>
      intro h
      obtain ⟨p, hσ, rp⟩ := er.peek h1
      cases hz : f [.list ds] with
      | none => simp only [hz] at h; exact h.elim
      | some z =>
        simp only [hz] at h
        cases hs : isScal z with
        | false => rw [hs] at h; exact h.elim
        | true =>
          rw [hs] at h
          simp only [if_true] at h
          exact ⟨p, hσ, hf _ H [.ref p] [.list ds] z Q (fun _ z => z.elim) (.cons rp .nil) hz fun w H' s rw => h a H' (er.grow (S := ⟨e, a, σ, H⟩) s) (Stp.grow (S := ⟨e, a, σ, H⟩) s) w (rw.scal hs)⟩
    | _ => exact fun h => h.elim
theorem de_biO (i : Nat) {x nm : Str} {p p1 : Pos} {id : String} {f : List D → Option D} {r : List V → Hp → VK → Prop} (hc : CallR X (.builtin id) r) (hf : OpN c.K f r) (hg : Gl X nm) (hm : X.mg nm = none) (hb : bootBuiltins nm = some (.builtin id)) (hN : X.N[i]? = some x) (hv : Vis X.env.scope x)
    (hd : (x == ("__debug__" : Str)) = false := by decide +kernel) (hcd : (x == ("__classdict__" : Str)) = false := by decide +kernel) (hn : nm ≠ "__name__" := by decide +kernel) (hdb : (nm == ("__debug__" : Str)) = false := by decide +kernel)
    (he : starEach [.Name x p1] X.env = (false, eval (.Name x p1) X.env) :: starEach [] X.env := by rfl) (hpl : (backTo pos (starEach [] X.env)).any (·.1) = false := by rfl) : PE X (.Call (.Name nm p) [.Name x p1] [] pos) (tD c W (ePk1 i f)) := by
  refine PE.imp (pe_callB hc hg hm hb (pa_cons (pe_var (i := i) hN hv hd hcd) pa_nil he) hn hdb he hpl) fun σ H Q h => ?_
  obtain ⟨N0, e, a, er, h⟩ := h
  obtain ⟨p, hσ, hr⟩ := pk1_post hf er h
  exact ⟨.ref p, hσ, hr⟩
/-- name[k] of an own list -/
def eIxO (i : Nat) (F : Md D) : Md D := bnd F fun k e => match e[i]? with
  | some (.ol ds) => lft (dIx (.list ds) k) e
  | _ => .stuck
def hasOl (e : Env) (i : Nat) : Bool := isOl e i
end

/-! ### own dicts -/
section
variable {c : Cfg} {N0 : Addr → Prop}
/-- what was laid and protected becomes a result -/
theorem ER.adopt {e : Env} {a : Nat → List Addr} {σ : L2.St} {H : Hp} {p : Addr} {o o1 : HO} {sv : SV} (h : ER c (fun q => N0 q ∨ q = p) ⟨e, a, σ, H⟩) (hp1 : H p = some o1) (hp2 : NT o1) (hp3 : ∀ r, o1 ≠ .ext r) (hp : ¬ N0 p) (hs : Sr c (NN N0 (fup a e.length [p])) (upd H p o) (.ref p) sv [p]) (o' : sv ≠ .unset) :
    ER c N0 ⟨e ++ [sv], fup a e.length [p], σ ++ [some (.ref p)], upd H p o⟩ ∧
      ∀ (e0 : Env) (a0 : Nat → List Addr) (H0 : Hp) (o0 : HO), H0 p = none → Stp c ⟨e0, a0, σ, upd H0 p o0⟩ ⟨e, a, σ, H⟩ → Stp c ⟨e0, a0, σ, H0⟩ ⟨e ++ [sv], fup a e.length [p], σ ++ [some (.ref p)], upd H p o⟩ := by
  have hl : σ.length = e.length := h.len
  have z0 : a e.length = [] := h.zero e.length (.inl (by show e[e.length]? = none; simp))
  have at_ : ∀ k q, q ∈ fup a e.length [p] k → (k = e.length ∧ q = p) ∨ (k ≠ e.length ∧ q ∈ a k) := fun k q hq => by
    by_cases hk : k = e.length
    · rw [hk, fup_self] at hq; exact .inl ⟨hk, List.mem_singleton.mp hq⟩
    · rw [fup_ne hk] at hq; exact .inr ⟨hk, hq⟩
  have np : ∀ k, p ∉ a k := fun k m => h.n0 k p m (.inr rfl)
  have nn : ∀ q, NN N0 (fup a e.length [p]) q → NN (fun q => N0 q ∨ q = p) a q ∨ NTrk H q := fun q hq => by
    rcases hq with hq | ⟨k, m⟩
    · exact .inl (.inl (.inl hq))
    · rcases at_ k q m with ⟨_, m⟩ | ⟨_, m⟩
      · exact .inl (.inl (.inr m))
      · exact .inl (.inr ⟨k, m⟩)
  have key : ∀ i su, (e ++ [sv])[i]? = some su → (e[i]? = some su ∧ i < e.length) ∨ (i = e.length ∧ su = sv) := fun i su q => by
    by_cases hi : i < e.length
    · rw [List.getElem?_append_left hi] at q; exact .inl ⟨q, hi⟩
    · rw [List.getElem?_append_right (by omega)] at q
      have hlt := (List.getElem?_eq_some_iff.mp q).1
      have e0 : i - e.length = 0 := by simpa using hlt
      rw [e0] at q
      cases q
      exact .inr ⟨by omega, rfl⟩
  refine ⟨⟨by show (σ ++ [some _]).length = (e ++ [sv]).length; simpa using hl, fun i su q => ?_, fun i q => ?_, fun k => ?_, fun j k q h1 h2 => ?_, fun k q h1 => ?_, fun q hq => ?_, fun p' hp' => tab_put (h.tb p' hp') hp1 hp2 hp3⟩, fun e0 a0 H0 o0 hn st => ⟨?_, fun b ob e1 n t => ?_, fun i q hq => ?_, fun k su hk z oo => ?_⟩⟩
  · rcases key i su q with ⟨q, hi⟩ | ⟨hi, z⟩
    · rcases h.slot i su q with z | ⟨u, e1, s1⟩
      · exact .inl z
      · refine .inr ⟨u, by show (σ ++ [some _])[i]? = _; rw [List.getElem?_append_left (by omega)]; exact e1, ?_⟩
        show Sr c _ (upd H p o) u su (fup a e.length [p] i)
        rw [fup_ne (by omega)]
        exact s1.move (O := fun b => b = p) (fun b ob e1 n _ => by rw [upd_ne n]; exact e1) (fun q m => .inl (.inr m)) nn fun q m z => np i (z ▸ m)
    · subst hi; subst z
      refine .inr ⟨.ref p, by show (σ ++ [some _])[e.length]? = _; rw [← hl]; simp, ?_⟩
      show Sr c _ (upd H p o) _ su (fup a e.length [p] e.length)
      rw [fup_self]
      exact hs
  · have q : (e ++ [sv])[i]? = none ∨ (e ++ [sv])[i]? = some .unset := q
    show fup a e.length [p] i = []
    rcases q with q | q
    · have : (e ++ [sv]).length ≤ i := List.getElem?_eq_none_iff.mp q
      simp at this
      rw [fup_ne (by omega)]
      exact h.zero i (.inl (List.getElem?_eq_none (by show e.length ≤ i; omega)))
    · rcases key i _ q with ⟨q, hi⟩ | ⟨hi, z⟩
      · rw [fup_ne (by omega)]
        exact h.zero i (.inr q)
      · exact absurd z.symm o'
  · show (fup a e.length [p] k).Nodup
    by_cases hk : k = e.length
    · rw [hk, fup_self]; simp
    · rw [fup_ne hk]; exact h.nd k
  · rcases at_ j q h1 with ⟨e1, m1⟩ | ⟨n1, m1⟩ <;> rcases at_ k q h2 with ⟨e2, m2⟩ | ⟨n2, m2⟩
    · exact e1.trans e2.symm
    · exact absurd (m1 ▸ m2) (np k)
    · exact absurd (m2 ▸ m1) (np j)
    · exact h.dj _ _ q m1 m2
  · rcases at_ k q h1 with ⟨e1, m1⟩ | ⟨n1, m1⟩
    · rw [m1]; exact hp
    · exact fun y => h.n0 k q m1 (.inl y)
  · obtain ⟨u, e1, t⟩ := h.tr q (.inl hq)
    have hqp : q ≠ p := fun z => hp (z ▸ hq)
    exact ⟨u, by show upd H p o q = _; rw [upd_ne hqp]; exact e1, t⟩
  · exact Nat.le_trans st.ln (by show e.length ≤ (e ++ [sv]).length; simp)
  · have hb : b ≠ p := by
      intro z
      have e2 : H0 b = some ob := e1
      rw [z, hn] at e2
      exact nomatch e2
    show upd H p o b = some ob
    rw [upd_ne hb]
    exact st.ext b ob (by show upd H0 p o0 b = _; rw [upd_ne hb]; exact e1) n t
  · rcases at_ i q hq with ⟨_, m⟩ | ⟨_, m⟩
    · rw [m]; exact .inr (NTrk.of hn)
    · rcases st.new i q m with z | z
      · exact .inl z
      · refine .inr fun u e1 t => ?_
        by_cases hqp : q = p
        · have e1 : H0 q = some u := e1
          rw [hqp, hn] at e1; cases e1
        · exact z u (by show upd H0 p o0 q = _; rw [upd_ne hqp]; exact e1) t
  · have z : (e ++ [sv])[k]? = some su := z
    rcases key k su z with ⟨q, hi⟩ | ⟨hi, z⟩
    · obtain ⟨k1, k2⟩ := st.kp k su hk q oo
      exact ⟨by show (σ ++ [some _])[k]? = _; rw [List.getElem?_append_left (by omega)], k2⟩
    · refine absurd hk.2 ?_
      have := st.ln
      show ¬ k < e0.length
      have : e0.length ≤ e.length := st.ln
      omega
end
def getS (kds : List (Str × D)) (k : Str) : Option D := (kds.find? fun kv => decide (kv.1 = k)).map (·.2)
def putS (kds : List (Str × D)) (k : Str) (x : D) : List (Str × D) := if (kds.any fun kv => decide (kv.1 = k)) = true then kds.map (fun kv => if kv.1 = k then (kv.1, x) else kv) else kds ++ [(k, x)]
def mergeS (kds more : List (Str × D)) : List (Str × D) := more.foldl (fun acc kv => putS acc kv.1 kv.2) kds
section
variable {K : PySem.W.Frag} {N : Addr → Prop} {H : Hp}
theorem Rkv.length : ∀ {kvs : List (Key × V)} {kds : List (Str × D)}, Rkv K N H kvs kds → kvs.length = kds.length
  | _, _, .nil => rfl
  | _, _, .cons _ t => by simp [Rkv.length t]
theorem Rkv.get : ∀ {kvs : List (Key × V)} {kds : List (Str × D)}, Rkv K N H kvs kds → ∀ {k : Str} {x : D}, getS kds k = some x → ∃ v, valV kvs (.inr k) = some v ∧ Rp K N H v x
  | _, _, .nil, k, x, e => by cases e
  | _, _, .cons (k := k') (v := v') (d := d') (kvs := kvs) (kds := kds) h t, k, x, e => by
    unfold getS at e
    by_cases hk : k' = k
    · rw [List.find?_cons_of_pos (by simpa using hk)] at e
      cases e
      exact ⟨v', valV_pos (by show (Sum.inr k' : Key) = .inr k; rw [hk]), h⟩
    · rw [List.find?_cons_of_neg (by simpa using hk)] at e
      obtain ⟨v, e1, r⟩ := Rkv.get t (k := k) (x := x) e
      exact ⟨v, by rw [valV_neg (by intro z; exact hk (Sum.inr.inj z))]; exact e1, r⟩
theorem Rkv.any (k : Str) : ∀ {kvs : List (Key × V)} {kds : List (Str × D)}, Rkv K N H kvs kds → (kvs.any fun kv => decide (kv.1 = (Sum.inr k : Key))) = (kds.any fun kv => decide (kv.1 = k))
  | _, _, .nil => rfl
  | _, _, .cons (k := k') (v := v') (d := d') (kvs := kvs) (kds := kds) h t => by
    simp only [List.any_cons, Rkv.any k t]
    congr 1
    by_cases hk : k' = k
    · simp [hk]
    · simp [hk]
theorem Rkv.mapp (k : Str) {v : V} {x : D} (r : Rp K N H v x) : ∀ {kvs : List (Key × V)} {kds : List (Str × D)}, Rkv K N H kvs kds → Rkv K N H (kvs.map fun kv => if kv.1 = (Sum.inr k : Key) then (kv.1, v) else kv) (kds.map fun kv => if kv.1 = k then (kv.1, x) else kv)
  | _, _, .nil => .nil
  | _, _, .cons (k := k') (v := v') (d := d') (kvs := kvs) (kds := kds) h t => by
    rw [List.map_cons, List.map_cons]
    by_cases hk : k' = k
    · rw [if_pos (by show (Sum.inr k' : Key) = _; rw [hk]), if_pos hk]
      exact .cons r (Rkv.mapp k r t)
    · rw [if_neg (by intro z; exact hk (Sum.inr.inj z)), if_neg hk]
      exact .cons h (Rkv.mapp k r t)
theorem Rkv.snoc {k : Str} {v : V} {x : D} (r : Rp K N H v x) : ∀ {kvs : List (Key × V)} {kds : List (Str × D)}, Rkv K N H kvs kds → Rkv K N H (kvs ++ [(.inr k, v)]) (kds ++ [(k, x)])
  | _, _, .nil => .cons r .nil
  | _, _, .cons h t => .cons h (Rkv.snoc r t)
theorem Rkv.put {kvs : List (Key × V)} {kds : List (Str × D)} (h : Rkv K N H kvs kds) (k : Str) {v : V} {x : D} (r : Rp K N H v x) : Rkv K N H (putK kvs (.inr k) v) (putS kds k x) := by
  unfold putK putS
  rw [h.any k]
  split
  · exact h.mapp k r
  · exact h.snoc r
theorem Rkv.merge : ∀ {more : List (Key × V)} {mds : List (Str × D)} {kvs : List (Key × V)} {kds : List (Str × D)}, Rkv K N H more mds → Rkv K N H kvs kds → Rkv K N H (mergeK kvs more) (mergeS kds mds)
  | _, _, _, _, .nil, h => h
  | _, _, kvs, kds, .cons (k := k) (v := v) (d := d) (kvs := kvs') (kds := kds') r t, h => by
    show Rkv K N H (mergeK (putK kvs (.inr k) v) kvs') (mergeS (putS kds k d) kds')
    exact Rkv.merge t (h.put k r)
end

section
variable {X : Cx} {c : Cfg} {W : WX} {e e1 : Expr} {es : List Expr} {pos : Pos} {F Fk : Md D} {FL : Md (List D)}
theorem ER.get_od {N0 : Addr → Prop} {S : Sx} {i : Nat} {kds : List (Str × D)} (h : ER c N0 S) (e : S.e[i]? = some (.od kds)) : ∃ p kvs, S.s[i]? = some (some (.ref p)) ∧ S.h p = some (.dK kvs) ∧ Rkv c.K (NN N0 S.a) S.h kvs kds ∧ S.a i = [p] := by
  rcases h.slot i _ e with z | ⟨v, e1, r⟩
  · cases z
  · generalize ha : S.a i = as at r
    cases r with
    | od h1 h2 => exact ⟨_, _, e1, h1, h2, rfl⟩
/-- the pairs of a display -/
def kNil : Md (List (Str × D)) := fun e => .ok [] e
def kCons (k : Str) (F : Md D) (r : Md (List (Str × D))) : Md (List (Str × D)) := bnd F fun x => bnd r fun l e => .ok ((k, x) :: l) e
def tKV (c : Cfg) (W : WX) (F : Md (List (Str × D))) : L2.St → Hp → (List (V × V) → Hp → Prop) → Prop := fun σ H Q => ∃ N0 e a, ER c N0 ⟨e, a, σ, H⟩ ∧ Post c W N0 ⟨e, a, σ, H⟩ (F e) fun kds _ a' H' => ∀ kvs, Rkv c.K (NN N0 a') H' kvs kds → Q (kvs.map fun kv => (kV kv.1, kv.2)) H'
def DPs (X : Cx) (c : Cfg) (W : WX) (pos : Pos) (keys : List (Option Expr)) (values : List Expr) (F : Md (List (Str × D))) : Prop := ∃ trs, PPs X pos keys values trs ∧ ∀ σ H Q, tKV c W F σ H Q → tPairs trs σ H Q
theorem dps_nil : DPs X c W pos [] [] kNil := ⟨[], pps_nil, fun σ H Q h => by
  obtain ⟨N0, e, a, er, h⟩ := h
  exact h a H er (Stp.refl _) [] .nil⟩
theorem bindK {β : Type} {N0 : Addr → Prop} {e : Env} {a : Nat → List Addr} {σ : L2.St} {H : Hp} {F : Md (List (Str × D))} {k : List (Str × D) → Md β} {P : β → Env → (Nat → List Addr) → Hp → Prop} {R : List (V × V) → Hp → Prop} (er : ER c N0 ⟨e, a, σ, H⟩) (h : Post c W N0 ⟨e, a, σ, H⟩ (bnd F k e) P)
    (g : ∀ x e1 a1 H1 kvs, ER c N0 ⟨e1, a1, σ, H1⟩ → Stp c ⟨e, a, σ, H⟩ ⟨e1, a1, σ, H1⟩ → Rkv c.K (NN N0 a1) H1 kvs x → Post c W N0 ⟨e1, a1, σ, H1⟩ (k x e1) P → R (kvs.map fun kv => (kV kv.1, kv.2)) H1) : tKV c W F σ H R := by
  refine ⟨N0, e, a, er, ?_⟩
  unfold bnd at h
  revert h
  generalize F e = r
  cases r with
  | ok x e1 => exact fun h a1 H1 er1 st v rv => g x e1 a1 H1 v er1 st rv (Post.from h st rfl)
  | err cn fs e1 => exact fun h => h
  | stuck => exact fun h => h
theorem dps_cons {k : Str} {j : Nat} {kp : Pos} {keys : List (Option Expr)} {values : List Expr} {R : Md (List (Str × D))} (hv : PE X e (tD c W F)) (hr : DPs X c W pos keys values R) : DPs X c W pos (some (.Constant (.str k) j kp) :: keys) (e :: values) (kCons k F R) := by
  obtain ⟨trs, hp, hi⟩ := hr
  refine ⟨_, pps_cons (pe_str (x := k)) hv hp, fun σ H Q h => ?_⟩
  obtain ⟨N0, e, a, er, h⟩ := h
  show tD c W F σ H _
  refine bindD er h fun x e1 a1 H1 v er1 st1 rx h => hi _ _ _ ?_
  refine bindK er1 h fun l e2 a2 H2 kvs er2 st2 rl h => ?_
  exact h a2 H2 er2 (Stp.refl _) ((.inr k, v) :: kvs) (.cons (rx.step st2) rl)
/-- a display as an own dict -/
def oDsp (F : Md (List (Str × D))) : Md SV := bnd F fun kds e => if kds.length ≤ 15 then .ok (.od (mergeS [] kds)) e else .stuck
theorem obindK {N0 : Addr → Prop} {e : Env} {a : Nat → List Addr} {σ : L2.St} {H : Hp} {F : Md (List (Str × D))} {k : List (Str × D) → Md SV} {Q : VK} (h : PostO c W N0 ⟨e, a, σ, H⟩ (bnd F k e) Q) :
    Post c W N0 ⟨e, a, σ, H⟩ (F e) fun kds e1 a1 H1 => PostO c W N0 ⟨e, a, σ, H⟩ (k kds e1) Q := by
  unfold bnd at h
  revert h
  generalize F e = r
  cases r with
  | ok x e1 => exact fun h a1 H1 er1 st => h
  | err cn fs e1 => exact fun h => h
  | stuck => exact fun h => h
theorem ER.lessN {N0 N1 : Addr → Prop} {S : Sx} (h : ER c N1 S) (hN : ∀ p, N0 p → N1 p) : ER c N0 S := by
  refine ⟨h.len, fun i sv q => ?_, h.zero, h.nd, h.dj, fun i p m z => h.n0 i p m (hN p z), fun p z => h.tr p (hN p z), h.tb⟩
  rcases h.slot i sv q with z | ⟨v, e1, s1⟩
  · exact .inl z
  · exact .inr ⟨v, e1, s1.move (O := fun _ => False) (fun b ob e1 _ _ => e1) (fun _ m => m.elim) (fun q hq => .inl (hq.imp (hN q) id)) fun _ _ m => m⟩
theorem Stp.unlay {e : Env} {a : Nat → List Addr} {σ : L2.St} {H : Hp} {p : Addr} {o : HO} {S' : Sx} (st : Stp c ⟨e, a, σ, upd H p o⟩ S') (hp : H p = none) : Stp c ⟨e, a, σ, H⟩ S' :=
  ⟨st.ln, fun b ob e1 n t => st.ext b ob (same_upd hp b ob e1) n t, fun i q m => (st.new i q m).imp id fun z u e1 t => z u (same_upd hp q u e1) t, st.kp⟩
/-- .. with a place protected that was laid -/
theorem PErrX.laid {N0 : Addr → Prop} {e : Env} {a : Nat → List Addr} {σ : L2.St} {H : Hp} {p : Addr} {o : HO} {cn : Str} {fs : List (Str × D)} {e' : Env} (hp : H p = none) (h : PErrX c W N0 ⟨e, a, σ, H⟩ cn fs e') : PErrX c W (fun q => N0 q ∨ q = p) ⟨e, a, σ, upd H p o⟩ cn fs e' :=
  fun a' H' C dd fvs er st hC hd hF hnn => h a' H' C dd fvs (er.lessN fun _ => .inl) (st.unlay hp) hC hd (hF.mono fun q hq => hq.imp .inl id) (fun hq => hnn (hq.imp .inl id))
theorem Post.laid {α : Type} {N0 : Addr → Prop} {e : Env} {a : Nat → List Addr} {σ : L2.St} {H : Hp} {p : Addr} {o : HO} {r : Res α} {P P' : α → Env → (Nat → List Addr) → Hp → Prop} (hp : H p = none) (h : Post c W N0 ⟨e, a, σ, H⟩ r P)
    (g : ∀ x e' a' H', ER c (fun q => N0 q ∨ q = p) ⟨e', a', σ, H'⟩ → Stp c ⟨e, a, σ, upd H p o⟩ ⟨e', a', σ, H'⟩ → P x e' a' H' → P' x e' a' H') : Post c W (fun q => N0 q ∨ q = p) ⟨e, a, σ, upd H p o⟩ r P' := by
  cases r with
  | ok x e' => exact fun a' H' er st => g x e' a' H' er st (h a' H' (er.lessN fun _ => .inl) (st.unlay hp))
  | err cn fs e' => exact PErrX.laid hp h
  | stuck => exact h
theorem Post.prot {α : Type} {N0 N1 : Addr → Prop} (hN : ∀ p, N0 p → N1 p) {S : Sx} {r : Res α} {P P' : α → Env → (Nat → List Addr) → Hp → Prop} (h : Post c W N0 S r P) (g : ∀ x e' a' H', ER c N1 ⟨e', a', S.s, H'⟩ → Stp c S ⟨e', a', S.s, H'⟩ → P x e' a' H' → P' x e' a' H') : Post c W N1 S r P' := by
  cases r with
  | ok x e' => exact fun a' H' er st => g x e' a' H' er st (h a' H' (er.lessN hN) st)
  | err cn fs e' => exact fun a' H' C dd fvs er st hC hd hF hnn => h a' H' C dd fvs (er.lessN hN) st hC hd (hF.mono fun q hq => hq.imp (hN q) id) (fun hq => hnn (hq.imp (hN _) id))
  | stuck => exact h
theorem Rkv.step {N0 : Addr → Prop} {S S' : Sx} {kvs : List (Key × V)} {kds : List (Str × D)} (h : Rkv c.K (NN N0 S.a) S.h kvs kds) (p : Stp c S S') : Rkv c.K (NN N0 S'.a) S'.h kvs kds :=
  h.move (O := fun b => ∃ i, b ∈ S.a i) (fun b o e n t => p.ext b o e n t) (fun q m => .inr m) p.nn
theorem do_dsp {keys : List (Option Expr)} {values : List Expr} {FK : Md (List (Str × D))} (h : DPs X c W pos keys values FK) (hall : keys.all (·.isSome) = true := by rfl) (hl : keys.length = values.length := by rfl) (h0 : keys ≠ [] := by exact fun z => nomatch z)
    (h15 : keys.length ≤ 15 := by decide +kernel) : PE X (.Dict keys values pos) (tO c W (oDsp FK)) := by
  obtain ⟨trs, hp, hi⟩ := h
  refine PE.imp (pe_disp hp hall hl h0 h15) fun σ H Q h => ?_
  obtain ⟨N0, e, a, er, h⟩ := h
  intro p hp
  refine hi _ _ _ ⟨_, e, a, er.protect (o := .dK []) hp (fun _ z => nomatch z), ?_⟩
  refine Post.laid hp (obindK h) fun kds e1 a1 H1 er1 st1 h kvs rk => ?_
  obtain ⟨h15, h⟩ := h.ite
  have hn0 : ¬ N0 p := fun z => er.trn p z hp
  have e1p : H1 p = some (.dK []) := st1.ext p _ (show upd H p (.dK []) p = _ from upd_same) (fun ⟨i, m⟩ => er.own_tr i p m hp) (fun _ z => nomatch z)
  refine ⟨e1p, kvs, rfl, by rw [rk.length]; exact h15, ?_⟩
  have mk : Rkv c.K (NN N0 (fup a1 e1.length [p])) (upd H1 p (.dK (mergeK [] kvs))) (mergeK [] kvs) (mergeS [] kds) := by
    refine Rkv.merge (Rkv.move (O := fun b => b = p) (fun b ob e1 n _ => by rw [upd_ne n]; exact e1) (fun q m => .inl (.inr m)) (fun q hq => ?_) rk) .nil
    rcases hq with hq | ⟨k, m⟩
    · exact .inl (.inl (.inl hq))
    · by_cases hk : k = e1.length
      · rw [hk, fup_self] at m; exact .inl (.inl (.inr (List.mem_singleton.mp m)))
      · rw [fup_ne hk] at m; exact .inl (.inr ⟨k, m⟩)
  have q := er1.adopt (o := .dK (mergeK [] kvs)) (sv := .od (mergeS [] kds)) e1p (fun _ z => nomatch z) (fun _ z => nomatch z) hn0 (.od upd_same mk) (fun z => nomatch z)
  exact h _ _ _ q.1 (q.2 _ _ _ _ hp st1)
/-- a display that is looked into at once -/
def eDspIx (FK : Md (List (Str × D))) (Fk : Md D) : Md D := bnd FK fun kds => if kds.length ≤ 15 then bnd Fk fun k => match k with
  | .str x => lft (getS (mergeS [] kds) x)
  | _ => fun _ => .stuck else fun _ => .stuck
theorem de_dspIx {gb : Bool} {k : Nat} {keys : List (Option Expr)} {values : List Expr} {FK : Md (List (Str × D))} {dpos : Pos} (hr : Rm gb k X.A) (h : DPs X c W dpos keys values FK) (he : PE X e (tD c W Fk)) (hs : NoSl e) (hall : keys.all (·.isSome) = true := by rfl) (hl : keys.length = values.length := by rfl) (h0 : keys ≠ [] := by exact fun z => nomatch z)
    (h15 : keys.length ≤ 15 := by decide +kernel) : PE X (.Subscript (.Dict keys values dpos) e pos) (tD c W (eDspIx FK Fk)) := by
  obtain ⟨trs, hp, hi⟩ := h
  refine PE.imp (pe_dget (by have := hr.r.un; omega) (pe_disp hp hall hl h0 h15) he hs) fun σ H Q h => ?_
  obtain ⟨N0, e0, a, er, h⟩ := h
  intro p hp
  refine hi _ _ _ ⟨_, e0, a, er.protect (o := .dK []) hp (fun _ z => nomatch z), ?_⟩
  have h' : Post c W N0 ⟨e0, a, σ, H⟩ (FK e0) fun kds e1 a1 H1 => Post c W N0 ⟨e0, a, σ, H⟩ ((if kds.length ≤ 15 then bnd Fk fun k => match k with
      | .str x => lft (getS (mergeS [] kds) x)
      | _ => fun _ => .stuck else fun _ => .stuck) e1) (okD c N0 Q) := by
    unfold eDspIx bnd at h
    revert h
    generalize FK e0 = r
    cases r with
    | ok x e1 => exact fun h a1 H1 er1 st => h
    | err cn fs e1 => exact fun h => h
    | stuck => exact fun h => h
  refine Post.laid hp h' fun kds e1 a1 H1 er1 st1 h kvs rk => ?_
  by_cases h15 : kds.length ≤ 15
  · rw [if_pos h15] at h
    have e1p : H1 p = some (.dK []) := st1.ext p _ (show upd H p (.dK []) p = _ from upd_same) (fun ⟨i, m⟩ => er.own_tr i p m hp) (fun _ z => nomatch z)
    refine ⟨e1p, kvs, rfl, by rw [rk.length]; exact h15, ?_⟩
    have er2 := er1.upd_apart (o := .dK (mergeK [] kvs)) (.inr rfl) e1p (fun _ z => nomatch z) (fun _ z => nomatch z) (fun _ z => nomatch z)
    have st2 : Stp c ⟨e0, a, σ, H⟩ ⟨e1, a1, σ, upd H1 p (.dK (mergeK [] kvs))⟩ := by
      refine ⟨st1.ln, fun b ob eb n t => ?_, fun i q m => (st1.unlay hp).new i q m, st1.kp⟩
      have hb : b ≠ p := by
        intro z
        have e2 : H b = some ob := eb
        rw [z, hp] at e2
        exact nomatch e2
      show upd H1 p _ b = _
      rw [upd_ne hb]
      exact (st1.unlay hp).ext b ob eb n t
    have mk : Rkv c.K (NN (fun q => N0 q ∨ q = p) a1) (upd H1 p (.dK (mergeK [] kvs))) (mergeK [] kvs) (mergeS [] kds) :=
      Rkv.merge (Rkv.move (O := fun b => b = p) (fun b ob e1 n _ => by rw [upd_ne n]; exact e1) (fun q m => .inl (.inr m)) (fun q hq => .inl hq) rk) .nil
    refine ⟨_, e1, a1, er2, ?_⟩
    have h2 := Post.from h st2 rfl
    have hn0 : ¬ N0 p := fun z => er.trn p z hp
    unfold bnd at h2
    revert h2
    cases Fk e1 with
    | stuck => exact fun h => h
    | err cn fs e' => exact fun h a' H' C dd fvs er st hC hd hF hnn => h a' H' C dd fvs (er.lessN fun _ => .inl) st hC hd (hF.mono fun q hq => hq.imp .inl id) (fun hq => hnn (hq.imp .inl id))
    | ok y e3 =>
      intro h a3 H3 er3 st3 v ry
      cases y with
      | str x =>
        cases ry
        cases hg : getS (mergeS [] kds) x with
        | none => simp only [hg] at h; exact h.elim
        | some z =>
          simp only [hg] at h
          have e3p : H3 p = some (.dK (mergeK [] kvs)) := st3.ext p _ upd_same (fun ⟨i, m⟩ => er2.n0 i p m (.inr rfl)) (fun _ z => nomatch z)
          have mk3 := mk.step (S := ⟨e1, a1, σ, upd H1 p (.dK (mergeK [] kvs))⟩) st3
          obtain ⟨w, hw, rw'⟩ := mk3.get hg
          refine ⟨p, w, rfl, .inl ⟨_, .inr x, .inl e3p, rfl, hw.symm⟩, ?_⟩
          exact h a3 H3 (er3.lessN fun _ => .inl) st3 w (rw'.mono fun q hq => hq.imp .inl id)
      | _ => exact h.elim
  · rw [if_neg h15] at h; exact h.elim
end
end VL

set_option Elab.async false
set_option autoImplicit false
set_option linter.all false
set_option maxRecDepth 100000
set_option maxHeartbeats 4000000
/-! VL10: own dicts read and written, own instances made, read and written. -/
namespace VL
open PySem PySem.Spec PyProof.Rows L2
section
variable {X : Cx} {c : Cfg} {W : WX} {e value : Expr} {es : List Expr} {pos : Pos} {F Fi Fv : Md D} {FL : Md (List D)}
def isOd (e : Env) (i : Nat) : Bool := match e[i]? with
  | some (.od _) => true
  | _ => false
theorem isOd_of {e : Env} {i : Nat} (h : isOd e i = true) : ∃ ds, e[i]? = some (.od ds) := by
  unfold isOd at h
  split at h
  · exact ⟨_, by assumption⟩
  · cases h
theorem Post.ite {α : Type} {N0 : Addr → Prop} {S : Sx} {p : Prop} [Decidable p] {r : Res α} {P : α → Env → (Nat → List Addr) → Hp → Prop} (h : Post c W N0 S (if p then r else .stuck) P) : p ∧ Post c W N0 S r P := by
  by_cases hp : p
  · rw [if_pos hp] at h; exact ⟨hp, h⟩
  · rw [if_neg hp] at h; exact h.elim
theorem PostS.ite {N0 : Addr → Prop} {S : Sx} {p : Prop} [Decidable p] {r : SR} {P : Ends} (h : PostS c W N0 S (if p then r else .stuck) P) : p ∧ PostS c W N0 S r P := by
  by_cases hp : p
  · rw [if_pos hp] at h; exact ⟨hp, h⟩
  · rw [if_neg hp] at h; exact h.elim
/-- name[k] of an own dict -/
def eDget (i : Nat) (F : Md D) : Md D := fun e0 => if isOd e0 i = true then bnd F (fun y e => match y, e[i]? with
  | .str k, some (.od kds) => lft (getS kds k) e
  | _, _ => .stuck) e0 else .stuck
theorem de_dget {gb : Bool} (i : Nat) {k : Nat} {x : Str} {p1 : Pos} (hr : Rm gb k X.A) (hN : X.N[i]? = some x) (hv : Vis X.env.scope x) (he : PE X e (tD c W F)) (hs : NoSl e) (hd : (x == ("__debug__" : Str)) = false := by decide +kernel) (hcd : (x == ("__classdict__" : Str)) = false := by decide +kernel) :
    PE X (.Subscript (.Name x p1) e pos) (tD c W (eDget i F)) := by
  refine PE.imp (pe_dget (by have := hr.r.un; omega) (pe_var (i := i) hN hv hd hcd) he hs) fun σ H Q h => ?_
  obtain ⟨N0, e0, a, er, h⟩ := h
  unfold eDget at h
  obtain ⟨ho, h⟩ := h.ite
  obtain ⟨kd0, h0⟩ := isOd_of ho
  obtain ⟨p, kvs0, hσ, _⟩ := er.get_od h0
  refine ⟨.ref p, hσ, ?_⟩
  refine bindD er h fun y e1 a1 H1 v er1 st1 ry h => ?_
  revert h
  cases y with
  | str k =>
    cases ry
    cases h1 : e1[i]? with
    | none => exact fun h => h.elim
    | some sv =>
      cases sv with
      | od kds =>
        intro h
        obtain ⟨q, kvs, hσ1, hq, rk, _⟩ := er1.get_od h1
        have e' : q = p := by
          have hσ1 : σ[i]? = _ := hσ1
          have hσ : σ[i]? = _ := hσ
          rw [hσ] at hσ1; cases hσ1; rfl
        subst e'
        obtain ⟨z, hz, kk⟩ := post_lft (S := ⟨e1, a1, σ, H1⟩) h
        obtain ⟨w, hw, rw'⟩ := rk.get hz
        exact ⟨q, w, rfl, .inl ⟨_, .inr k, .inl hq, rfl, hw.symm⟩, kk a1 H1 er1 (Stp.refl _) w rw'⟩
      | _ => exact fun h => h.elim
  | _ => exact fun h => h.elim
/-- name[k] = v of an own dict -/
def sDput (i : Nat) (Fv Fi : Md D) : Sm := sB Fv fun v e1 => if isOd e1 i = true then sB Fi (fun y e => match y, e[i]? with
  | .str k, some (.od kds) => if kds.length < sizeLine then .nx (e.set i (.od (putS kds k v))) else .stuck
  | _, _ => .stuck) e1 else .stuck
theorem ds_dput {gb : Bool} (i : Nat) {k : Nat} {x : Str} {p1 pos' : Pos} (hr : Rm gb k X.A) (hN : X.N[i]? = some x) (hv : Vis X.env.scope x) (he : PE X e (tD c W Fi)) (hval : PE X value (tD c W Fv)) (hs : swapsWith value (some (.Subscript (.Name x p1) e pos')) pos.line X.env = pure false := by rfl) (hd : (x == ("__debug__" : Str)) = false := by decide +kernel) (hcd : (x == ("__classdict__" : Str)) = false := by decide +kernel) :
    PS X (.Assign [.Subscript (.Name x p1) e pos'] value pos) (tS c W (sDput i Fv Fi)) := by
  refine PS.imp (ps_dput (by have := hr.r.un; omega) (pe_var (i := i) hN hv hd hcd) he hval hs) fun D' σ H h => ?_
  obtain ⟨N0, e0, a, er, h⟩ := h
  unfold sDput at h
  refine sbindD er h fun v e1 a1 H1 w er1 st1 rv h => ?_
  obtain ⟨ho, h⟩ := h.ite
  obtain ⟨kd0, h0⟩ := isOd_of ho
  obtain ⟨p, kvs0, hσ, _⟩ := er1.get_od h0
  refine ⟨.ref p, hσ, ?_⟩
  refine sbindD er1 h fun y e2 a2 H2 u er2 st2 ry h => ?_
  revert h
  cases y with
  | str k =>
    cases ry
    cases h1 : e2[i]? with
    | none => exact fun h => h.elim
    | some sv =>
      cases sv with
      | od kds =>
        intro h
        obtain ⟨hlt, h⟩ := h.ite
        obtain ⟨q, kvs, hσ1, hq, rk, ha⟩ := er2.get_od h1
        have e' : q = p := by
          have hσ1 : σ[i]? = _ := hσ1
          have hσ : σ[i]? = _ := hσ
          rw [hσ] at hσ1; cases hσ1; rfl
        subst e'
        have hn : NN N0 a2 q := .inr ⟨i, by show q ∈ a2 i; rw [show a2 i = [q] from ha]; simp⟩
        have ef : fup a2 i [q] = a2 := by
          funext j
          by_cases hj : j = i
          · rw [hj, fup_self]; exact ha.symm
          · rw [fup_ne hj]
        have mk : Rkv c.K (NN N0 a2) (upd H2 q (.dK (putK kvs (.inr k) w))) (putK kvs (.inr k) w) (putS kds k v) :=
          Rkv.move (O := fun b => b = q) (fun b ob e1 n _ => by rw [upd_ne n]; exact e1) (fun r m => m ▸ hn) (fun r hr => .inl hr) (rk.put k (rv.step st2))
        have kq := er2.chg (i := i) (sv := .od kds) (sv' := .od (putS kds k v)) (as' := [q]) (H' := upd H2 q (.dK (putK kvs (.inr k) w))) h1 rfl hσ1
          (fun b ob e1 n => by rw [upd_ne (fun z => n (by rw [z]; show q ∈ a2 i; rw [show a2 i = [q] from ha]; simp))]; exact e1) (fun r m => .inl (by show r ∈ a2 i; rw [show a2 i = [q] from ha]; exact m)) (by simp) (by rw [ef]; exact .od upd_same mk) rfl
        exact ⟨q, _, rfl, .inl ⟨kvs, .inr k, hq, rfl, by rw [rk.length]; exact hlt, rfl⟩, h _ _ _ kq.1 kq.2⟩
      | _ => exact fun h => h.elim
  | _ => exact fun h => h.elim

/-! ### own instances -/
def putFd (f : Str) (v : SV) : List (Str × SV) → List (Str × SV)
  | [] => [(f, v)]
  | (g, x) :: r => if g = f then (g, v) :: r else (g, x) :: putFd f v r
theorem Srf.length {N : Addr → Prop} {H : Hp} : ∀ {fvs : List (Str × V)} {fs : List (Str × SV)} {as : List Addr}, Srf c N H fvs fs as → fvs.length = fs.length
  | _, _, _, .nil => rfl
  | _, _, _, .cons _ t => by simp [Srf.length t]
theorem Srf.get_d {N : Addr → Prop} {H : Hp} {f : Str} {x : D} : ∀ {fvs : List (Str × V)} {fs : List (Str × SV)} {as : List Addr}, Srf c N H fvs fs as → fs.lookup f = some (.d x) → ∃ v, fvs.lookup f = some v ∧ Rp c.K N H v x
  | _, _, _, .nil, e => by cases e
  | _, _, _, .cons (f := g) (v := v) (sv := sv) h t, e => by
    rw [List.lookup_cons] at e ⊢
    cases hg : (f == g) with
    | true =>
      rw [hg] at e
      cases e
      exact ⟨v, rfl, h.inv_d.1⟩
    | false =>
      rw [hg] at e
      exact Srf.get_d t e
theorem Srf.put {N : Addr → Prop} {H : Hp} {f : Str} {x : D} {v : V} (r : Rp c.K N H v x) : ∀ {fvs : List (Str × V)} {fs : List (Str × SV)} {as : List Addr}, Srf c N H fvs fs as → ∃ as', Srf c N H (putF f v fvs) (putFd f (.d x) fs) as' ∧ List.Sublist as' as
  | _, _, _, .nil => ⟨[] ++ [], .cons (.d r) .nil, List.Sublist.refl _⟩
  | _, _, _, .cons (f := g) (v := w) (sv := sv) (a := a) (as := as) (fvs := fvs) (fs := fs) h t => by
    unfold putF putFd
    by_cases hg : g = f
    · rw [if_pos hg, if_pos hg]
      exact ⟨[] ++ as, .cons (.d r) t, by simp⟩
    · rw [if_neg hg, if_neg hg]
      obtain ⟨as', s, sub⟩ := Srf.put r t
      exact ⟨a ++ as', .cons h s, (List.append_sublist_append_left a).mpr sub⟩
/-- name.f of an own instance of cn -/
def eFld (i : Nat) (cn f : Str) : Md D := fun e => match e[i]? with
  | some (.oi c' fs) => if c' = cn then match fs.lookup f with
    | some (.d x) => .ok x e
    | _ => .stuck else .stuck
  | _ => .stuck
theorem de_fld (i : Nat) {cn f x : Str} {C : Addr} {p1 : Pos} (hK : c.K = X.K) (hC : c.CT cn = some C) (cl : Cls X.K C) (na : NoAttr X.K C f) (hN : X.N[i]? = some x) (hv : Vis X.env.scope x) (hb : attributeBase (.Name x p1) f X.env (eval (.Name x p1) X.env) = eval (.Name x p1) X.env := by rfl)
    (hd : (x == ("__debug__" : Str)) = false := by decide +kernel) (hcd : (x == ("__classdict__" : Str)) = false := by decide +kernel) : PE X (.Attribute (.Name x p1) f pos) (tD c W (eFld i cn f)) := by
  refine PE.imp (pe_fld (pe_var (i := i) hN hv hd hcd) hb) fun σ H Q h => ?_
  obtain ⟨N0, e0, a, er, h⟩ := h
  unfold eFld at h
  split at h
  · rename_i c' fs he
    obtain ⟨hcc, h3⟩ := h.ite
    clear h
    subst hcc
    obtain ⟨p, C', dx, fvs, fas, hσ, hp, hC', hf, hap⟩ := er.get_oi he
    rw [hC] at hC'
    cases hC'
    revert h3
    cases hx : fs.lookup f with
    | none => exact fun h => h.elim
    | some sv =>
      cases sv with
      | d x =>
        intro h
        obtain ⟨v, hv, rv⟩ := hf.get_d hx
        exact ⟨.ref p, hσ, p, C, dx, fvs, v, rfl, hp, cl, na, hv, h a H er (Stp.refl _) v rv⟩
      | _ => exact fun h => h.elim
  · exact h.elim
/-- name.f = v -/
def sFldP (i : Nat) (cn f : Str) (v : D) : Sm := fun e => match e[i]? with
  | some (.oi c' fs) => if c' = cn ∧ fs.length < 1000 then .nx (e.set i (.oi cn (putFd f (.d v) fs))) else .stuck
  | _ => .stuck
theorem fld_put {N0 : Addr → Prop} {e : Env} {a : Nat → List Addr} {σ : L2.St} {H : Hp} {D' : Ends} {i : Nat} {cn f : Str} {C : Addr} {v : V} {x : D} (er : ER c N0 ⟨e, a, σ, H⟩) (hC : c.CT cn = some C) (rv : Rp c.K (NN N0 a) H v x) (h : PostS c W N0 ⟨e, a, σ, H⟩ (sFldP i cn f x e) D') :
    ∃ p dx fvs, σ[i]? = some (some (.ref p)) ∧ H p = some (.ins C dx fvs) ∧ fvs.length < 1000 ∧ D'.nx σ (upd H p (.ins C dx (putF f v fvs))) := by
  unfold sFldP at h
  split at h
  · rename_i c' fs he
    obtain ⟨⟨rfl, hlt⟩, h⟩ := h.ite
    obtain ⟨p, C', dx, fvs, fas, hσ, hp, hC', hf, hap⟩ := er.get_oi he
    rw [hC] at hC'
    cases hC'
    refine ⟨p, dx, fvs, hσ, hp, by rw [hf.length]; exact hlt, ?_⟩
    obtain ⟨as', hs, sub⟩ := Srf.put (f := f) rv hf
    have hap : a i = p :: fas := hap
    have hn : ∀ q, q ∈ p :: fas → NN N0 a q := fun q m => .inr ⟨i, by rw [hap]; exact m⟩
    have nd : (p :: fas).Nodup := by rw [← hap]; exact er.nd i
    have sub2 : List.Sublist (p :: as') (p :: fas) := sub.cons₂ p
    have hpa : p ∉ as' := (List.nodup_cons.mp (List.Nodup.sublist sub2 nd)).1
    have k := er.chg (i := i) (sv := .oi c' fs) (sv' := .oi c' (putFd f (.d x) fs)) (as' := p :: as') (H' := upd H p (.ins C dx (putF f v fvs))) he rfl hσ
      (fun b ob e1 n => by rw [upd_ne (fun z => n (by rw [z]; show p ∈ a i; rw [hap]; simp))]; exact e1) (fun r m => .inl (by show r ∈ a i; rw [hap]; exact sub2.subset m)) (List.Nodup.sublist sub2 nd)
      (.oi upd_same hC (Srf.move (O := fun b => b = p) (fun b ob e1 n _ => by rw [upd_ne n]; exact e1) (fun r m => m ▸ hn p (by simp)) (fun r hr => by
        rcases hr with hr | ⟨j, m⟩
        · exact .inl (.inl hr)
        · by_cases hj : j = i
          · rw [hj, fup_self] at m; exact .inl (hn r (sub2.subset m))
          · rw [fup_ne hj] at m; exact .inl (.inr ⟨j, m⟩)) hs fun q m z => hpa (z ▸ m))) rfl
    exact h _ _ _ k.1 k.2
  · exact h.elim
theorem ds_fld (i : Nat) {cn f x : Str} {C : Addr} {p1 pos' : Pos} (hK : c.K = X.K) (hC : c.CT cn = some C) (cl : Cls X.K C) (na : NoAttr X.K C f) (hN : X.N[i]? = some x) (hv : Vis X.env.scope x) (he : PE X value (tD c W F)) (hs : swapsWith value (some (.Attribute (.Name x p1) f pos')) pos.line X.env = pure false := by rfl)
    (hd : (x == ("__debug__" : Str)) = false := by decide +kernel) (hcd : (x == ("__classdict__" : Str)) = false := by decide +kernel) : PS X (.Assign [.Attribute (.Name x p1) f pos'] value pos) (tS c W (sB F (sFldP i cn f))) := by
  refine PS.imp (ps_fld (pe_var (i := i) hN hv hd hcd) he hs) fun D' σ H h => ?_
  obtain ⟨N0, e0, a, er, h⟩ := h
  refine sbindD er h fun v e1 a1 H1 w er1 st1 rv h => ?_
  obtain ⟨p, dx, fvs, h1, h2, h3, h4⟩ := fld_put er1 hC rv h
  exact ⟨.ref p, h1, p, C, dx, fvs, rfl, h2, cl, na, h3, h4⟩
/-- name.f += v, ints -/
def sFldAdd (i : Nat) (cn f : Str) (F : Md D) : Sm := sB (eFld i cn f) fun x => sB F fun y e => match x, y with
  | .int a, .int b => sFldP i cn f (.int (a + b)) e
  | _, _ => .stuck
theorem ds_fldadd (i : Nat) {cn f x : Str} {C : Addr} {p1 tpos : Pos} (hK : c.K = X.K) (hC : c.CT cn = some C) (cl : Cls X.K C) (na : NoAttr X.K C f) (hN : X.N[i]? = some x) (hv : Vis X.env.scope x) (he : PE X value (tD c W F))
    (hd : (x == ("__debug__" : Str)) = false := by decide +kernel) (hcd : (x == ("__classdict__" : Str)) = false := by decide +kernel) : PS X (.AugAssign (.Attribute (.Name x p1) f tpos) .Add value pos) (tS c W (sFldAdd i cn f F)) := by
  refine PS.imp (ps_fldaug (pe_var (i := i) hN hv hd hcd) he in_add) fun D' σ H h => ?_
  obtain ⟨N0, e0, a, er, h⟩ := h
  unfold sFldAdd at h
  unfold sB eFld at h
  revert h
  cases he : e0[i]? with
  | none => exact fun h => h.elim
  | some sv =>
    cases sv with
    | oi c' fs =>
      by_cases hc : c' = cn
      · subst hc
        obtain ⟨p, C', dx, fvs, fas, hσ, hp, hC', hf, hap⟩ := er.get_oi he
        rw [hC] at hC'
        cases hC'
        simp only [if_true]
        cases hx : fs.lookup f with
        | none => exact fun h => h.elim
        | some sv =>
          cases sv with
          | d x =>
            simp only
            intro h
            obtain ⟨v, hv, rv⟩ := hf.get_d hx
            refine ⟨.ref p, hσ, p, C, dx, fvs, v, rfl, hp, cl, na, hv, ?_⟩
            refine sbindD er (show PostS c W N0 ⟨e0, a, σ, H⟩ (sB F _ e0) D' from h) fun y e1 a1 H1 w er1 st1 ry h => ?_
            cases x with
            | int m =>
              cases y with
              | int n =>
                cases rv
                cases ry
                obtain ⟨q, dx', fvs', h1, h2, h3, h4⟩ := fld_put er1 hC (.int (m + n)) h
                have e' : q = p := by
                  have hσ : σ[i]? = _ := hσ
                  rw [hσ] at h1; cases h1; rfl
                subst e'
                exact ⟨m, n, rfl, rfl, dx', fvs', h2, h3, h4⟩
              | _ => exact h.elim
            | _ => exact h.elim
          | _ => exact fun h => h.elim
      · simp only [if_neg hc]
        exact fun h => h.elim
    | _ => exact fun h => h.elim
end

/-! ### making instances -/
section
theorem make_guards {A : Around} {C : Addr} {us : List Value} {kw : List (Str × Value)} (h : A.guards = some []) : (A.under (.builtin "type.__call__" ⟨.ref C :: us, kw⟩)).guards = some [] := by
  first | exact h | (simp [Around.under, Code.guards, Code.isGuard, pushGuards, guardIds, h])
theorem Rm.make {gb : Bool} {k : Nat} {A : Around} (r : Rm gb (k + 1) A) (C : Addr) (us : List Value) (kw : List (Str × Value)) : Rm gb k (A.under (.builtin "type.__call__" ⟨.ref C :: us, kw⟩)) := ⟨r.r.make C us kw, fun z => make_guards (r.g z)⟩
variable {X : Cx} {c : Cfg} {W : WX}
theorem run_makeV {gb : Bool} {C f : Addr} {k : Nat} {fd : FuncData} {ps : List Str} {sp : Sp} {dvs : List V} {ds : List Value} {E : L2.St → XK} {pins : List (Addr × Obj)} {σ : L2.St} {H : Hp} {s : Shared} {Q : VK} {us : List Value} {vs : List V} (M : Mk X.K C f) (F : FnV X.prog X.w X.K X.mg X.base (L2.CX X.prog X.w) gb k f fd ps sp) (hr : Rm gb (k + 1) X.A) (hb : Binds X.K fd ps ds) (hd : Vals dvs ds)
    (hx : PassesAt (L2.CX X.prog X.w) X σ (E σ)) (I : Inv X pins σ H s) (r : Vals vs us)
    (h : ∀ x dx, H x = none → H dx = none → dx ≠ x → sp (.ref x :: (vs ++ dvs)) (upd (upd H dx (.own x)) x (.ins C dx [])) (fun v H2 => v = .non ∧ Q (.ref x) H2) (E σ)) :
    wpAny (model X.prog X.w) X.A (call (.ref C) us) (EP X pins σ Q) X.xe s := by
  have hq := h (s.heap.objs.size + 1) s.heap.objs.size (I.hok.fresh (Nat.le_succ _)) (I.hok.fresh (Nat.le_refl _)) (Nat.ne_of_lt (Nat.lt_succ_self _))
  have I2 := Inv.made (C := C) I
  have r2 : Vals (V.ref (s.heap.objs.size + 1) :: (vs ++ dvs)) (Value.ref (s.heap.objs.size + 1) :: (us ++ ds)) := .cons rfl (r.append hd)
  have hl : (Value.ref (s.heap.objs.size + 1) :: us ++ ds).length = ps.length := by
    have e := r2.length
    rw [F.len _ _ _ _ hq] at e
    exact e.symm
  refine wpAny_call (make_map (f := f) I.kIn M.makes M.init (beq_iff_eq.mp M.fn) (codeAny_mono (F.run _ X.stack _ _ ⟨Value.ref (s.heap.objs.size + 1) :: us, []⟩ (Value.ref (s.heap.objs.size + 1) :: (us ++ ds)) _ _ (E σ) (hr.make C us [])
    (I2.env0.make C us []) (hb _ (Value.ref (s.heap.objs.size + 1) :: us) I2.kIn hl) r2 hq) fun r s' hq' => ?_))
  cases r with
  | error e => exact hx pins _ _ e s' I2 hq'
  | ok fl =>
    cases fl with
    | ret u =>
      obtain ⟨v, H', I3, rv, ev, q3⟩ := I2.after hq'
      subst ev
      exact ⟨rv, ⟨V.ref (s.heap.objs.size + 1), H', I3, rfl, q3⟩⟩
    | next => exact False.elim hq'
    | brk => exact False.elim hq'
    | cont => exact False.elim hq'

/-- C(..): an own instance -/
def oNew (n : Nat) (cn : Str) (f : Md SV) (dds : List D) (FL : Md (List D)) : Md SV := bnd FL fun xs e1 => if xs.length + 1 + dds.length = n then match f (.oi cn [] :: (xs ++ dds).map SV.d) with
  | .ok (.d .none) (.oi c' fs :: _) => .ok (.oi c' fs) e1
  | .err c fs _ => .err c fs e1
  | _ => .stuck else .stuck
theorem map_vl (e : Env) (xs : List D) : (xs.map AV.vl).map (svOf e) = xs.map SV.d := by
  rw [List.map_map]; rfl
theorem wb_vl : ∀ (xs : List D) (svs : List SV) (e : Env), wb (xs.map AV.vl) svs e = e
  | [], [], _ => rfl
  | [], _ :: _, _ => rfl
  | _ :: _, [], _ => rfl
  | _ :: xs, _ :: svs, e => by show wb (xs.map AV.vl) svs e = e; exact wb_vl xs svs e
theorem lnOk_vl : ∀ xs : List D, lnOk (xs.map AV.vl) = true
  | [] => rfl
  | _ :: xs => lnOk_vl xs
theorem any_vl (i : Nat) : ∀ xs : List D, (xs.map AV.vl).any (isLn i) = false
  | [] => rfl
  | _ :: xs => any_vl i xs
theorem avrs_vl {N0 : Addr → Prop} {S : Sx} : ∀ {vs : List V} {xs : List D}, Rps c.K (NN N0 S.a) S.h vs xs → AvRs c N0 S vs (xs.map AV.vl)
  | _, _, .nil => .nil
  | _, _, .cons h t => .cons h (avrs_vl t)
theorem getD_last (e : Env) (sv : SV) : (e ++ [sv]).getD e.length .unset = sv := by simp [List.getD_eq_getElem?_getD]
theorem set_last (e : Env) (sv sv' : SV) : (e ++ [sv]).set e.length sv' = e ++ [sv'] := by simp [List.set_append]
theorem do_new_run {gb : Bool} {N0 : Addr → Prop} {C f : Addr} {k n : Nat} {cn : Str} {fd : FuncData} {ps : List Str} {dvs : List V} {ds : List Value} {dds : List D} {g : Md SV} (hX : ∀ p d k, ¬ c.xp p d k) (hK : c.K = X.K) (hC : c.CT cn = some C) (M : Mk X.K C f) (Fo : FnV X.prog X.w X.K X.mg X.base (L2.CX X.prog X.w) gb k f fd ps (spV X.K c.CT c.tt n g)) (hr : Rm gb (k + 1) X.A) (tk : Takes X W)
    (hb : Binds X.K fd ps ds) (hd : Vals dvs ds) (rd : ∀ N H, Rps X.K N H dvs dds) {pins : List (Addr × Obj)} {σ : L2.St} {H1 : Hp} {s : Shared} {Q : VK} {us : List Value} {vs : List V} {xs : List D} {e1 : Env} {a1 : Nat → List Addr}
    (I : Inv X pins σ H1 s) (r : Vals vs us) (er : ER c N0 ⟨e1, a1, σ, H1⟩) (rx : Rps c.K (NN N0 a1) H1 vs xs)
    (h : PostO c W N0 ⟨e1, a1, σ, H1⟩ (if xs.length + 1 + dds.length = n then match g (.oi cn [] :: (xs ++ dds).map SV.d) with
      | .ok (.d .none) (.oi c' fs :: _) => .ok (.oi c' fs) e1
      | .err c fs _ => .err c fs e1
      | _ => .stuck else .stuck) Q) : wpAny (model X.prog X.w) X.A (call (.ref C) us) (EP X pins σ Q) X.xe s := by
  obtain ⟨hn, h⟩ := h.ite
  refine run_makeV (E := L2.WE W) M Fo hr hb hd (passAt tk σ) I r fun x dx hx hdx hne => ?_
  have sm : Same H1 (upd (upd H1 dx (.own x)) x (.ins C dx [])) := fun b o e => by
    have h1 : b ≠ x := fun z => by rw [z, hx] at e; exact nomatch e
    have h2 : b ≠ dx := fun z => by rw [z, hdx] at e; exact nomatch e
    rw [upd_ne h1, upd_ne h2]; exact e
  have q := er.push_o (v := .ref x) (sv := .oi cn []) (as' := [x]) sm (fun q hq => by rw [List.mem_singleton.mp hq]; exact hx) (by simp) (.oi upd_same hC .nil) (fun z => nomatch z)
  have rx2 : Rps c.K (NN N0 (fup a1 e1.length [x])) (upd (upd H1 dx (.own x)) x (.ins C dx [])) vs xs := rx.step (S := ⟨e1, a1, σ, H1⟩) q.2
  have hsv : ((AV.ln e1.length :: xs.map AV.vl).map (svOf (e1 ++ [.oi cn []])) ++ dds.map SV.d) = .oi cn [] :: (xs ++ dds).map SV.d := by
    rw [List.map_cons, map_vl, List.map_append]
    show (e1 ++ [SV.oi cn []]).getD e1.length .unset :: _ ++ _ = _
    rw [getD_last]; rfl
  have hσl : (σ ++ [some (V.ref x)])[e1.length]? = some (some (.ref x)) := by
    have hl : σ.length = e1.length := er.len
    rw [← hl]; simp
  have hav : AvR c N0 ⟨e1 ++ [.oi cn []], fup a1 e1.length [x], σ ++ [some (.ref x)], upd (upd H1 dx (.own x)) x (.ins C dx [])⟩ (.ref x) (.ln e1.length) := ⟨hσl, by rw [getD_last]; rfl⟩
  have hlk : lnOk (AV.ln e1.length :: xs.map AV.vl) = true := by
    show (!(xs.map AV.vl).any (isLn e1.length) && lnOk (xs.map AV.vl)) = true
    rw [any_vl, lnOk_vl]; rfl
  have key := call_sp (c := c) (N0 := N0) (K := X.K) (CT := c.CT) hX hK rfl rfl (n := n) (e1 := e1 ++ [.oi cn []]) (a1 := fup a1 e1.length [x]) (σ := σ ++ [some (.ref x)]) (H1 := upd (upd H1 dx (.own x)) x (.ins C dx [])) (as := .ln e1.length :: xs.map AV.vl) (vs := .ref x :: vs) (dvs := dvs) (dds := dds) (f := g)
    (Q := fun v H2 => v = .non ∧ Q (.ref x) H2) (E := L2.WE W σ) (by simp only [List.length_cons, List.length_map]; omega) q.1 (.cons hav (avrs_vl (S := ⟨e1 ++ [.oi cn []], fup a1 e1.length [x], σ ++ [some (.ref x)], _⟩) rx2)) rd hlk
  refine key ?_
  rw [hsv]
  revert h
  cases hg : g (.oi cn [] :: (xs ++ dds).map SV.d) with
  | stuck => exact fun h => h
  | err cn' fs svs =>
    intro h a' H' C' dd fvs er' st' hC' hdd hF hnn
    have er1 : ER c N0 ⟨e1, fup a' e1.length [], σ, H'⟩ ∧ ∀ S : Sx, S.e.length ≤ e1.length → Stp c S ⟨wb (AV.ln e1.length :: xs.map AV.vl) svs (e1 ++ [SV.oi cn []]), a', σ ++ [some (V.ref x)], H'⟩ → Stp c S ⟨e1, fup a' e1.length [], σ, H'⟩ := by
      cases svs with
      | nil => exact er'.drop
      | cons sv0 svs =>
        have hw : ∃ sv', wb (AV.ln e1.length :: xs.map AV.vl) (sv0 :: svs) (e1 ++ [SV.oi cn []]) = e1 ++ [sv'] := ⟨_, by unfold wb; rw [wb_vl, set_last]⟩
        obtain ⟨sv', hw⟩ := hw
        rw [hw] at er' ⊢
        exact er'.drop
    refine h (fup a' e1.length []) H' C' dd fvs er1.1 (er1.2 _ (Nat.le_refl _) (q.2.trans st')) hC' hdd ?_ (fun hp => hnn (hp.elim .inl fun ⟨i, z⟩ => .inr ⟨i, (fup_nil z).1⟩))
    rw [← hK] at hF
    exact hF.mono fun p hp => hp.elim .inl fun ⟨i, z⟩ => .inr ⟨i, (fup_nil z).1⟩
  | ok r svs =>
    cases r with
    | d y =>
      cases y with
      | none =>
        cases svs with
        | nil => exact fun h => h.elim
        | cons sv0 svs =>
          cases sv0 with
          | oi c' fs =>
            intro h a' H' v er' st'
            have hw : wb (AV.ln e1.length :: xs.map AV.vl) (.oi c' fs :: svs) (e1 ++ [SV.oi cn []]) = e1 ++ [.oi c' fs] := by unfold wb; rw [wb_vl, set_last]; rfl
            rw [hw] at er' st'
            have hv : v = .non := by
              have z := er'.get_d (i := (e1 ++ [SV.oi c' fs]).length) (x := .none) (by show ((e1 ++ [SV.oi c' fs]) ++ [SV.d .none])[(e1 ++ [SV.oi c' fs]).length]? = _; simp)
              obtain ⟨u, hu, ru⟩ := z
              have hl : (σ ++ [some (V.ref x)]).length = (e1 ++ [SV.oi c' fs]).length := by have hl : σ.length = e1.length := er.len; simp [hl]
              have hu : ((σ ++ [some (V.ref x)]) ++ [some v])[(e1 ++ [SV.oi c' fs]).length]? = some (some u) := hu
              rw [← hl] at hu
              simp at hu
              subst hu
              exact ru.t_non
            refine ⟨hv, ?_⟩
            have k := er'.drop
            exact h _ _ _ k.1 (k.2 _ (by simp) (q.2.trans st'))
          | _ => exact fun h => h.elim
      | _ => exact fun h => h.elim
    | _ => exact fun h => h.elim
theorem do_new {gb : Bool} {e : Expr} {es : List Expr} {pos p : Pos} {FL : Md (List D)} {x : Str} {C f : Addr} {k n : Nat} {cn : Str} {fd : FuncData} {ps : List Str} {dvs : List V} {ds : List Value} {dds : List D} {g : Md SV} (hX : ∀ p d k, ¬ c.xp p d k) (hK : c.K = X.K) (hC : c.CT cn = some C) (M : Mk X.K C f) (Fo : FnV X.prog X.w X.K X.mg X.base (L2.CX X.prog X.w) gb k f fd ps (spV X.K c.CT c.tt n g)) (hr : Rm gb (k + 1) X.A) (tk : Takes X W)
    (hg : Gl X x) (hm : X.mg x = some (.ref C)) (hb : Binds X.K fd ps ds) (hd : Vals dvs ds) (rd : ∀ N H, Rps X.K N H dvs dds) (ha : PA X (e :: es) (tL c W FL)) (hdb : (x == ("__debug__" : Str)) = false := by decide +kernel)
    (he : starEach (e :: es) X.env = (false, eval e X.env) :: starEach es X.env := by rfl) (hpl : (backTo pos (starEach es X.env)).any (·.1) = false := by rfl) : PE X (.Call (.Name x p) (e :: es) [] pos) (tO c W (oNew n cn g dds FL)) := by
  refine ⟨fun pins s σ H Q I h => ?_⟩
  obtain ⟨N0, e0, a0, er, h⟩ := h
  refine wpAny_Call_Name_kw (ld_glob I hg hm ?_ hdb)
  refine PySem.W.callWith_K (h₀ := X.base) I.ok.mod.kin M.kp (thn (ha.run pos pins s σ H (fun vs H1 => ∃ e1 a1 xs, ER c N0 ⟨e1, a1, σ, H1⟩ ∧ Rps c.K (NN N0 a1) H1 vs xs ∧ PostO c W N0 ⟨e1, a1, σ, H1⟩ (if xs.length + 1 + dds.length = n then match g (.oi cn [] :: (xs ++ dds).map SV.d) with
      | .ok (.d .none) (.oi c' fs :: _) => .ok (.oi c' fs) e1
      | .err c fs _ => .err c fs e1
      | _ => .stuck else .stuck) Q) I ?_) fun us s1 ⟨vs, H1, I1, r, q⟩ => ⟨I1.kIn, ?_⟩) he hpl
  · exact obindL er h fun xs e1 a1 H1 vs er1 st1 rx h => ⟨e1, a1, xs, er1, rx, h⟩
  · obtain ⟨e1, a1, xs, er1, rx, h⟩ := q
    exact do_new_run hX hK hC M Fo hr tk hb hd rd I1 r er1 rx h

/-- the last but one goes -/
theorem ER.dropMid {N0 : Addr → Prop} {e : Env} {a : Nat → List Addr} {σ : L2.St} {H : Hp} {s1 s2 : SV} {v u : V} (h : ER c N0 ⟨(e ++ [s1]) ++ [s2], a, (σ ++ [some v]) ++ [some u], H⟩) :
    ER c N0 ⟨e ++ [s2], fup (fup a e.length (a (e.length + 1))) (e.length + 1) [], σ ++ [some u], H⟩ ∧ ∀ S : Sx, S.e.length ≤ e.length → Stp c S ⟨(e ++ [s1]) ++ [s2], a, (σ ++ [some v]) ++ [some u], H⟩ → Stp c S ⟨e ++ [s2], fup (fup a e.length (a (e.length + 1))) (e.length + 1) [], σ ++ [some u], H⟩ := by
  have hl : σ.length = e.length := by have q : ((σ ++ [some v]) ++ [some u]).length = ((e ++ [s1]) ++ [s2]).length := h.len; simpa using q
  let b : Nat → List Addr := fup (fup a e.length (a (e.length + 1))) (e.length + 1) []
  have bl : ∀ i, i < e.length → b i = a i := fun i hi => by
    show fup (fup a e.length (a (e.length + 1))) (e.length + 1) [] i = a i
    rw [fup_ne (by omega), fup_ne (by omega)]
  have be : b e.length = a (e.length + 1) := by
    show fup (fup a e.length (a (e.length + 1))) (e.length + 1) [] e.length = _
    rw [fup_ne (by omega), fup_self]
  have bo : ∀ i, e.length < i → b i = [] := fun i hi => by
    show fup (fup a e.length (a (e.length + 1))) (e.length + 1) [] i = []
    by_cases hi2 : i = e.length + 1
    · rw [hi2, fup_self]
    · rw [fup_ne hi2, fup_ne (by omega)]
      exact h.zero i (.inl (List.getElem?_eq_none (by show ((e ++ [s1]) ++ [s2]).length ≤ i; simp; omega)))
  have src : ∀ i p, p ∈ b i → ∃ j, p ∈ a j ∧ ((i < e.length ∧ j = i) ∨ (i = e.length ∧ j = e.length + 1)) := fun i p m => by
    rcases Nat.lt_trichotomy i e.length with hi | hi | hi
    · rw [bl i hi] at m; exact ⟨i, m, .inl ⟨hi, rfl⟩⟩
    · rw [hi, be] at m; exact ⟨_, m, .inr ⟨hi, rfl⟩⟩
    · rw [bo i hi] at m; cases m
  have nn : ∀ p, NN N0 b p → NN N0 a p ∨ NTrk H p := fun p hp => hp.elim (fun z => .inl (.inl z)) fun ⟨i, m⟩ => let ⟨j, mj, _⟩ := src i p m; .inl (.inr ⟨j, mj⟩)
  have k2 : ((e ++ [s1]) ++ [s2])[e.length + 1]? = some s2 := by
    have : (e ++ [s1]).length = e.length + 1 := by simp
    rw [← this]; simp
  have v2 : ((σ ++ [some v]) ++ [some u])[e.length + 1]? = some (some u) := by
    have : (σ ++ [some v]).length = e.length + 1 := by simp [hl]
    rw [← this]; simp
  have key : ∀ i su, (e ++ [s2])[i]? = some su → (e[i]? = some su ∧ i < e.length) ∨ (i = e.length ∧ su = s2) := fun i su q => by
    by_cases hi : i < e.length
    · rw [List.getElem?_append_left hi] at q; exact .inl ⟨q, hi⟩
    · rw [List.getElem?_append_right (by omega)] at q
      have hlt := (List.getElem?_eq_some_iff.mp q).1
      have e0 : i - e.length = 0 := by simpa using hlt
      rw [e0] at q
      cases q
      exact .inr ⟨by omega, rfl⟩
  have eL : ∀ i, i < e.length → ((e ++ [s1]) ++ [s2])[i]? = e[i]? := fun i hi => by rw [List.getElem?_append_left (by simp; omega), List.getElem?_append_left hi]
  have sL : ∀ i, i < e.length → ((σ ++ [some v]) ++ [some u])[i]? = (σ ++ [some u])[i]? := fun i hi => by rw [List.getElem?_append_left (by simp; omega), List.getElem?_append_left (by omega), List.getElem?_append_left (by omega)]
  refine ⟨⟨by show (σ ++ [some u]).length = (e ++ [s2]).length; simp [hl], fun i su q => ?_, fun i q => ?_, fun i => ?_, fun i k p h1 h2 => ?_, fun i p h1 => ?_, h.tr, h.tb⟩,
    fun S hS st => ⟨Nat.le_trans hS (by show e.length ≤ (e ++ [s2]).length; simp), st.ext, fun i p h1 => ?_, fun i su hi q o => ?_⟩⟩
  · rcases key i su q with ⟨q, hi⟩ | ⟨hi, z⟩
    · rcases h.slot i su ((eL i hi).trans q) with z | ⟨w, e1, s1'⟩
      · exact .inl z
      · refine .inr ⟨w, (sL i hi).symm.trans e1, ?_⟩
        show Sr c (NN N0 b) H w su (b i)
        rw [bl i hi]
        exact s1'.move (O := fun _ => False) (fun _ _ e1 _ _ => e1) (fun _ m => m.elim) nn fun _ _ m => m
    · subst hi; subst z
      rcases h.slot (e.length + 1) su k2 with z | ⟨w, e1, s1'⟩
      · exact .inl z
      · have e1 : ((σ ++ [some v]) ++ [some u])[e.length + 1]? = some (some w) := e1
        rw [v2] at e1
        cases e1
        refine .inr ⟨u, by show (σ ++ [some u])[e.length]? = _; rw [← hl]; simp, ?_⟩
        show Sr c (NN N0 b) H u su (b e.length)
        rw [be]
        exact s1'.move (O := fun _ => False) (fun _ _ e1 _ _ => e1) (fun _ m => m.elim) nn fun _ _ m => m
  · show b i = []
    have q : (e ++ [s2])[i]? = none ∨ (e ++ [s2])[i]? = some .unset := q
    rcases Nat.lt_trichotomy i e.length with hi | hi | hi
    · rw [bl i hi]
      refine h.zero i ?_
      rw [show (Sx.mk ((e ++ [s1]) ++ [s2]) a ((σ ++ [some v]) ++ [some u]) H).e[i]? = e[i]? from eL i hi]
      rw [List.getElem?_append_left hi] at q
      exact q
    · subst hi
      rw [be]
      refine h.zero _ ?_
      rcases q with q | q
      · simp at q
      · have q2 : s2 = .unset := by simpa using q
        exact .inr (by rw [show (Sx.mk ((e ++ [s1]) ++ [s2]) a ((σ ++ [some v]) ++ [some u]) H).e[e.length + 1]? = some s2 from k2, q2])
    · exact bo i hi
  · show (b i).Nodup
    rcases Nat.lt_trichotomy i e.length with hi | hi | hi
    · rw [bl i hi]; exact h.nd i
    · rw [hi, be]; exact h.nd _
    · rw [bo i hi]; simp
  · obtain ⟨j1, m1, c1⟩ := src i p h1
    obtain ⟨j2, m2, c2⟩ := src k p h2
    have := h.dj j1 j2 p m1 m2
    omega
  · obtain ⟨j, m, _⟩ := src i p h1
    exact h.n0 j p m
  · obtain ⟨j, m, _⟩ := src i p h1
    exact st.new j p m
  · have q : (e ++ [s2])[i]? = some su := q
    have hi2 : i < e.length := Nat.lt_of_lt_of_le hi.2 hS
    rw [List.getElem?_append_left hi2] at q
    obtain ⟨k1, kk⟩ := st.kp i su hi ((eL i hi2).trans q) o
    exact ⟨(sL i hi2).symm.trans k1, kk⟩
/-- f(e): the one argument is an own thing given away -/
def oCallT (n : Nat) (f : Md SV) (dds : List D) (FO : Md SV) : Md SV := bnd FO fun sv e1 => if sv.own = true ∧ 1 + dds.length = n then match f (sv :: dds.map SV.d) with
  | .ok r _ => .ok r e1
  | .err c fs _ => .err c fs e1
  | .stuck => .stuck else .stuck
theorem do_callT {gb : Bool} {e : Expr} {pos p : Pos} {FO : Md SV} {x : Str} {k n : Nat} {g : Addr} {fd : FuncData} {ps : List Str} {dvs : List V} {ds : List Value} {dds : List D} {f : Md SV} (hX : ∀ p d k, ¬ c.xp p d k) (hK : c.K = X.K) (Fo : FnV X.prog X.w X.K X.mg X.base (L2.CX X.prog X.w) gb k g fd ps (spV X.K c.CT c.tt n f)) (hr : Rm gb k X.A) (tk : Takes X W) (hg : Gl X x) (hm : X.mg x = some (.ref g)) (hk : PySem.W.keepIn X.K (.ref g) = true)
    (hb : Binds X.K fd ps ds) (hd : Vals dvs ds) (rd : ∀ N H, Rps X.K N H dvs dds) (ha : PE X e (tO c W FO)) (hdb : (x == ("__debug__" : Str)) = false := by decide +kernel)
    (he : starEach [e] X.env = (false, eval e X.env) :: starEach [] X.env := by rfl) (hpl : (backTo pos (starEach [] X.env)).any (·.1) = false := by rfl) : PE X (.Call (.Name x p) [e] [] pos) (tO c W (oCallT n f dds FO)) := by
  refine ⟨fun pins s σ H Q I h => ?_⟩
  obtain ⟨N0, e0, a0, er, h⟩ := h
  refine wpAny_Call_Name_kw (ld_glob I hg hm ?_ hdb)
  refine PySem.W.callWith_K (h₀ := X.base) I.ok.mod.kin hk (thn ((pa_cons ha pa_nil he).run pos pins s σ H (fun vs H1 => ∃ v sv e1 a1, vs = [v] ∧ ER c N0 ⟨e1 ++ [sv], a1, σ ++ [some v], H1⟩ ∧ Stp c ⟨e0, a0, σ, H⟩ ⟨e1 ++ [sv], a1, σ ++ [some v], H1⟩ ∧ e0.length ≤ e1.length ∧ PostO c W N0 ⟨e0, a0, σ, H⟩ (if sv.own = true ∧ 1 + dds.length = n then match f (sv :: dds.map SV.d) with
      | .ok r _ => .ok r e1
      | .err c fs _ => .err c fs e1
      | .stuck => .stuck else .stuck) Q) I ?_) fun us s1 ⟨vs, H1, I1, r, q⟩ => ⟨I1.kIn, ?_⟩) he hpl
  · refine ⟨N0, e0, a0, er, ?_⟩
    unfold oCallT bnd at h
    revert h
    cases FO e0 with
    | stuck => exact fun h => h
    | err cn fs e1 => exact fun h => h
    | ok sv e1 =>
      intro h a1 H1 v er1 st1
      have hle : e0.length ≤ e1.length := by
        have h1 : (σ ++ [some v]).length = (e1 ++ [sv]).length := er1.len
        have h2 : σ.length = e0.length := er.len
        simp at h1; omega
      exact ⟨v, sv, e1, a1, rfl, er1, st1, hle, h⟩
  · obtain ⟨v, sv, e1, a1, rfl, er1, st1, hle, h⟩ := q
    obtain ⟨⟨ho, hn⟩, h⟩ := h.ite
    refine run_fnV (E := L2.WE W) Fo hr hb hd (passAt tk σ) I1 r ?_
    have hl : σ.length = e1.length := by have h1 : (σ ++ [some v]).length = (e1 ++ [sv]).length := er1.len; simpa using h1
    have hav : AvR c N0 ⟨e1 ++ [sv], a1, σ ++ [some v], H1⟩ v (.ln e1.length) := ⟨by show (σ ++ [some v])[e1.length]? = _; rw [← hl]; simp, by rw [getD_last]; exact ho⟩
    refine call_sp (f := f) (as := [.ln e1.length]) hX hK rfl rfl (by simpa using hn) er1 (.cons hav .nil) rd rfl ?_
    have hsv : ([AV.ln e1.length].map (svOf (e1 ++ [sv])) ++ dds.map SV.d) = sv :: dds.map SV.d := by
      show (e1 ++ [sv]).getD e1.length .unset :: _ = _
      rw [getD_last]
      rfl
    have hw : ∀ svs, ∃ sv', wb [AV.ln e1.length] svs (e1 ++ [sv]) = e1 ++ [sv'] := fun svs => by
      cases svs with
      | nil => exact ⟨sv, rfl⟩
      | cons sv0 svs =>
        refine ⟨_, by unfold wb; rw [set_last]; cases svs <;> rfl⟩
    rw [hsv]
    revert h
    cases f (sv :: dds.map SV.d) with
    | stuck => exact fun h => h
    | ok r svs =>
      intro h a' H' u er' st'
      obtain ⟨sv', hw⟩ := hw svs
      rw [hw] at er' st'
      have k := er'.dropMid
      exact h _ _ u k.1 (k.2 _ hle (st1.trans st'))
    | err cn fs svs =>
      intro h a' H' C dd fvs er' st' hC hdd hF hnn
      obtain ⟨sv', hw⟩ := hw svs
      rw [hw] at er' st'
      have k := er'.drop
      refine h _ H' C dd fvs k.1 (k.2 _ hle (st1.trans st')) hC hdd ?_ (fun hp => hnn (hp.elim .inl fun ⟨i, z⟩ => .inr ⟨i, (fup_nil z).1⟩))
      rw [← hK] at hF
      exact hF.mono fun p hp => hp.elim .inl fun ⟨i, z⟩ => .inr ⟨i, (fup_nil z).1⟩
end
end VL

set_option Elab.async false
set_option autoImplicit false
set_option linter.all false
set_option maxRecDepth 100000
set_option maxHeartbeats 4000000
/-! VL11: isinstance, methods of texts, slices, f-strings, the signs of a text, parallel stores. -/
namespace VL
open PySem PySem.Spec PyProof.Rows L2
def tyN : D → String
  | .none => "NoneType"
  | .bool _ => "bool"
  | .int _ => "int"
  | .str _ => "str"
  | .list _ => "list"
  | .tuple _ => "tuple"
  | .dict _ => "dict"
def tyOk (T : String) : Bool := ["int", "str", "bool", "list", "tuple", "dict"].contains T
/-- isinstance of data -/
def isTy (T : String) (x : D) : Bool := tyN x == T || (T == "int" && tyN x == "bool")
def dIsi (T : String) (x : D) : Option D := some (.bool (isTy T x))
theorem kitB_ty : ∀ T ∈ ["int", "str", "bool", "list", "tuple", "dict"], ∀ n ∈ ["NoneType", "bool", "int", "str", "list", "tuple", "dict"], kitB n T = some (n == T || (T == "int" && n == "bool")) := by decide +kernel
theorem tyN_mem (x : D) : tyN x ∈ ["NoneType", "bool", "int", "str", "list", "tuple", "dict"] := by cases x <;> simp [tyN]
theorem Rp.tyX {K : PySem.W.Frag} {N : Addr → Prop} {H : Hp} {v : V} {x : D} (h : Rp K N H v x) : TyX K H v (.type (tyN x)) := by
  cases h with
  | non => exact .base .non
  | bl b => exact .base (.bl b)
  | int i => exact .base (.int i)
  | str z => exact .base (.str z)
  | lst h n z r =>
    rcases h with h | ⟨o, h⟩
    · exact .base (.lst h)
    · exact .base (.frz h)
  | lstW h z r =>
    rcases h with (h | ⟨o, h⟩) | ⟨o, its, n, hk, hc, _⟩
    · cases h
    · cases h
    · exact .kList hk hc
  | tup h n z r =>
    rcases h with h | ⟨o, h⟩
    · exact .base (.tup h)
    · exact .fTuple h
  | tupW h z r =>
    rcases h with (h | ⟨o, h⟩) | ⟨o, its, n, hk, hc, _⟩
    · cases h
    · cases h
    · exact .kTuple hk hc
section
variable {X : Cx} {c : Cfg} {W : WX} {e e1 e2 o : Expr} {es : List Expr} {pos : Pos} {F Fa Fb : Md D} {FL : Md (List D)} {k : Nat}
theorem de_isi {T : String} {nm tn : Str} {p p2 : Pos} (hK : c.K = X.K) (hT : tyOk T = true) (hg : Gl X nm) (hm : X.mg nm = none) (hb : bootBuiltins nm = some (.builtin "isinstance")) (hg2 : Gl X tn) (hm2 : X.mg tn = none) (hb2 : bootBuiltins tn = some (.type T)) (he : PE X e (tD c W F))
    (hn : nm ≠ "__name__" := by decide +kernel) (hdb : (nm == ("__debug__" : Str)) = false := by decide +kernel) (hn2 : tn ≠ "__name__" := by decide +kernel) (hdb2 : (tn == ("__debug__" : Str)) = false := by decide +kernel)
    (hs1 : starEach [e, .Name tn p2] X.env = (false, eval e X.env) :: starEach [.Name tn p2] X.env := by rfl) (hs2 : starEach [.Name tn p2] X.env = (false, eval (.Name tn p2) X.env) :: starEach [] X.env := by rfl) (hpl : (backTo pos (starEach [.Name tn p2] X.env)).any (·.1) = false := by rfl) :
    PE X (.Call (.Name nm p) [e, .Name tn p2] [] pos) (tD c W (eOp1 (dIsi T) F)) := by
  refine PE.imp (pe_callB call_isi hg hm hb (pa_cons he (pa_cons (pe_bltn (v := .ty T) hg2 hm2 hb2 rfl hn2 hdb2) pa_nil hs2) hs1) hn hdb hs1 hpl) fun σ H Q h => ?_
  obtain ⟨N0, e0, a, er, h⟩ := h
  refine bindD er h fun x e1 a1 H1 v er1 st1 rx h => ?_
  have q := h a1 H1 er1 (Stp.refl _) (.bl _) (.bl _)
  refine ⟨v, .ty T, .type (tyN x), .type T, isTy T x, rfl, .ty T, hK ▸ rx.tyX, kit_ty ?_, q⟩
  have hT' : T ∈ ["int", "str", "bool", "list", "tuple", "dict"] := by simpa [tyOk, List.contains_iff_mem] using hT
  exact kitB_ty T hT' (tyN x) (tyN_mem x)

/-! built-ins by name -/
theorem de_len {nm : Str} {p : Pos} (hK : c.K = X.K) (hg : Gl X nm) (hm : X.mg nm = none) (hb : bootBuiltins nm = some (.builtin "len")) (ha : PA X (e1 :: es) (tL c W FL)) (hn : nm ≠ "__name__" := by decide +kernel) (hdb : (nm == ("__debug__" : Str)) = false := by decide +kernel)
    (he : starEach (e1 :: es) X.env = (false, eval e1 X.env) :: starEach es X.env := by rfl) (hpl : (backTo pos (starEach es X.env)).any (·.1) = false := by rfl) : PE X (.Call (.Name nm p) (e1 :: es) [] pos) (tD c W (eL dLen FL)) := de_bi call_len (hK ▸ o_len) hg hm hb ha hn hdb he hpl
theorem de_all {nm : Str} {p : Pos} (hK : c.K = X.K) (hc : X.calm = true) (hg : Gl X nm) (hm : X.mg nm = none) (hb : bootBuiltins nm = some (.builtin "all")) (ha : PA X (e1 :: es) (tL c W FL)) (hn : nm ≠ "__name__" := by decide +kernel) (hdb : (nm == ("__debug__" : Str)) = false := by decide +kernel)
    (he : starEach (e1 :: es) X.env = (false, eval e1 X.env) :: starEach es X.env := by rfl) (hpl : (backTo pos (starEach es X.env)).any (·.1) = false := by rfl) : PE X (.Call (.Name nm p) (e1 :: es) [] pos) (tD c W (eL dAll FL)) := de_bi (cr_all hc) (hK ▸ o_all) hg hm hb ha hn hdb he hpl
theorem de_any {nm : Str} {p : Pos} (hK : c.K = X.K) (hc : X.calm = true) (hg : Gl X nm) (hm : X.mg nm = none) (hb : bootBuiltins nm = some (.builtin "any")) (ha : PA X (e1 :: es) (tL c W FL)) (hn : nm ≠ "__name__" := by decide +kernel) (hdb : (nm == ("__debug__" : Str)) = false := by decide +kernel)
    (he : starEach (e1 :: es) X.env = (false, eval e1 X.env) :: starEach es X.env := by rfl) (hpl : (backTo pos (starEach es X.env)).any (·.1) = false := by rfl) : PE X (.Call (.Name nm p) (e1 :: es) [] pos) (tD c W (eL dAny FL)) := de_bi (cr_any hc) (hK ▸ o_any) hg hm hb ha hn hdb he hpl
theorem de_repr {nm : Str} {p : Pos} (hr : Rm true k X.A) (hK : c.K = X.K) (hg : Gl X nm) (hm : X.mg nm = none) (hb : bootBuiltins nm = some (.builtin "repr")) (ha : PA X (e1 :: es) (tL c W FL)) (hn : nm ≠ "__name__" := by decide +kernel) (hdb : (nm == ("__debug__" : Str)) = false := by decide +kernel)
    (he : starEach (e1 :: es) X.env = (false, eval e1 X.env) :: starEach es X.env := by rfl) (hpl : (backTo pos (starEach es X.env)).any (·.1) = false := by rfl) : PE X (.Call (.Name nm p) (e1 :: es) [] pos) (tD c W (eL dRepr FL)) := de_bi (call_reprD hr) (hK ▸ o_repr) hg hm hb ha hn hdb he hpl
theorem de_int1 {nm : Str} {p : Pos} (hg : Gl X nm) (hm : X.mg nm = none) (hb : bootBuiltins nm = some (.type "int")) (ha : PA X (e1 :: es) (tL c W FL)) (hn : nm ≠ "__name__" := by decide +kernel) (hdb : (nm == ("__debug__" : Str)) = false := by decide +kernel)
    (he : starEach (e1 :: es) X.env = (false, eval e1 X.env) :: starEach es X.env := by rfl) (hpl : (backTo pos (starEach es X.env)).any (·.1) = false := by rfl) : PE X (.Call (.Name nm p) (e1 :: es) [] pos) (tD c W (eL dInt FL)) := de_ty (callor call_int1 call_int_str) o_int hg hm hb ha hn hdb he hpl
theorem de_str1 {nm : Str} {p : Pos} (hg : Gl X nm) (hm : X.mg nm = none) (hb : bootBuiltins nm = some (.type "str")) (ha : PA X (e1 :: es) (tL c W FL)) (hn : nm ≠ "__name__" := by decide +kernel) (hdb : (nm == ("__debug__" : Str)) = false := by decide +kernel)
    (he : starEach (e1 :: es) X.env = (false, eval e1 X.env) :: starEach es X.env := by rfl) (hpl : (backTo pos (starEach es X.env)).any (·.1) = false := by rfl) : PE X (.Call (.Name nm p) (e1 :: es) [] pos) (tD c W (eL dStr FL)) := de_ty (callor call_str_int SkE.call_str_str) o_str hg hm hb ha hn hdb he hpl
theorem de_list1 {nm : Str} {p : Pos} (hK : c.K = X.K) (hg : Gl X nm) (hm : X.mg nm = none) (hb : bootBuiltins nm = some (.type "list")) (ha : PA X (e1 :: es) (tL c W FL)) (hn : nm ≠ "__name__" := by decide +kernel) (hdb : (nm == ("__debug__" : Str)) = false := by decide +kernel)
    (he : starEach (e1 :: es) X.env = (false, eval e1 X.env) :: starEach es X.env := by rfl) (hpl : (backTo pos (starEach es X.env)).any (·.1) = false := by rfl) : PE X (.Call (.Name nm p) (e1 :: es) [] pos) (tD c W (eL dToL FL)) := de_ty call_list_of (hK ▸ o_toL) hg hm hb ha hn hdb he hpl
theorem de_tuple1 {nm : Str} {p : Pos} (hK : c.K = X.K) (hg : Gl X nm) (hm : X.mg nm = none) (hb : bootBuiltins nm = some (.type "tuple")) (ha : PA X (e1 :: es) (tL c W FL)) (hn : nm ≠ "__name__" := by decide +kernel) (hdb : (nm == ("__debug__" : Str)) = false := by decide +kernel)
    (he : starEach (e1 :: es) X.env = (false, eval e1 X.env) :: starEach es X.env := by rfl) (hpl : (backTo pos (starEach es X.env)).any (·.1) = false := by rfl) : PE X (.Call (.Name nm p) (e1 :: es) [] pos) (tD c W (eL dToT FL)) := de_ty call_tuple_of (hK ▸ o_toT) hg hm hb ha hn hdb he hpl

/-! methods of texts -/
def isStr : D → Bool
  | .str _ => true
  | _ => false
/-- o.m(..) of a text -/
def eMs (f : D → List D → Option D) (Fo : Md D) (FL : Md (List D)) : Md D := bnd Fo fun x => if isStr x = true then bnd FL fun xs => lft (f x xs) else fun _ => .stuck
theorem de_ms {name : Str} {id : String} {apos cpos : Pos} {f : D → List D → Option D} {r : V → List V → Hp → VK → Prop} (slot : Slot "str" name id) (hty : typeOf (.builtin id) = pure (.type "method_descriptor")) (hm : MtR X id r) (hf : OpM c.K f r) (ho : PE X o (tD c W F)) (ha : PA X (e :: es) (tL c W FL))
    (hbase : attributeBase o name X.env (eval o X.env) = eval o X.env := by rfl)
    (hfew : ((backTo cpos (starEach (e :: es) X.env)).all (fun x => !x.1) && (backToKw cpos (keywordEach [] X.env)).all (fun x => x.1.isSome)
      && decide ((e :: es).length + ([] : List Keyword).length + (if ([] : List Keyword).isEmpty then 0 else 1) < 30)) = true := by rfl)
    (hline : (apos.endLine == cpos.line) = true := by rfl) (hs : starEach (e :: es) X.env = (false, eval e X.env) :: starEach es X.env := by rfl) (hplain : (backTo cpos (starEach es X.env)).any (·.1) = false := by rfl) :
    PE X (.Call (.Attribute o name apos) (e :: es) [] cpos) (tD c W (eMs f F FL)) := by
  refine PE.imp (pe_bm PySem.F.plainAttrs_str slot hty hm ho ha hbase hfew hline hs hplain) fun σ H Q h => ?_
  obtain ⟨N0, e0, a, er, h⟩ := h
  unfold eMs at h
  refine bindD er h fun x e1 a1 H1 v er1 st1 rx h => ?_
  by_cases hi : isStr x = true
  · rw [if_pos hi] at h
    cases x with
    | str z =>
      cases rx
      refine ⟨rfl, ?_⟩
      refine bindL er1 h fun xs e2 a2 H2 vs er2 st2 rxs h => ?_
      obtain ⟨w, hw, kk⟩ := post_lft (S := ⟨e2, a2, σ, H2⟩) h
      exact hf _ H2 (.str z) (.str z) vs xs w Q er2.all_tr (.str z) rxs hw fun u H' s ru => sameS (P := okD c N0 Q) er2 kk s u ru
    | _ => cases hi
  · rw [if_neg hi] at h; exact h.elim
def dSplit : D → List D → Option D
  | .str a, [.str b] => if (b.length == 0) = false ∧ a.length + 2 ≤ sizeLine ∧ (Txt.split a b).length ≤ sizeLine then some (.list ((Txt.split a b).map .str)) else none
  | _, _ => none
theorem rps_strs {K : PySem.W.Frag} {N : Addr → Prop} {H : Hp} : ∀ ys : List Str, Rps K N H (ys.map V.str) (ys.map PyData.str)
  | [] => .nil
  | y :: ys => .cons (.str y) (rps_strs ys)
theorem m_split {K : PySem.W.Frag} : OpM K dSplit (fun x xs H Q => ∃ a b, x = .str a ∧ xs = [.str b] ∧ (b.length == 0) = false ∧ a.length + 2 ≤ sizeLine ∧ rNewStrs (Txt.split a b) H Q) := by
  intro N H x dx xs ds dz Q hN rx rs hz k
  unfold dSplit at hz
  split at hz
  · split at hz
    · rename_i a b hl
      cases hz
      cases rx
      obtain ⟨y, rfl, r⟩ := rs.one
      cases r
      exact ⟨a, b, rfl, rfl, hl.1, hl.2.1, fun p hp => k _ _ (same_upd hp) ((rps_strs _).newL hp (by rw [List.length_map]; exact hl.2.2) hN)⟩
    · cases hz
  · cases hz
def unStrs : List D → Option (List Str)
  | [] => some []
  | .str b :: l => (unStrs l).map (b :: ·)
  | _ => none
theorem unStrs_v {K : PySem.W.Frag} {N : Addr → Prop} {H : Hp} : ∀ {xs : List V} {ds : List D} {bs : List Str}, Rps K N H xs ds → unStrs ds = some bs → xs = bs.map V.str
  | _, _, _, .nil, e => by cases e; rfl
  | _, _, bs, .cons (d := d) (ds := ds) h t, e => by
    cases h with
    | str b =>
      have e' : (unStrs ds).map (b :: ·) = some bs := e
      cases e2 : unStrs ds with
      | none => rw [e2] at e'; cases e'
      | some l =>
        rw [e2] at e'
        cases e'
        rw [unStrs_v t e2]; rfl
    | _ => cases e
def dJoinL (a : Str) (l : List D) : Option D := match unStrs l with
  | some ys => if (ys.map (·.length)).sum + ys.length * a.length ≤ 16777216 then some (.str (Txt.join a ys)) else none
  | none => none
def dJoin : D → List D → Option D
  | .str a, [.list l] => dJoinL a l
  | .str a, [.tuple l] => dJoinL a l
  | _, _ => none
theorem m_join {K : PySem.W.Frag} : OpM K dJoin (fun x xs H Q => ∃ a p, ∃ ys : List Str, x = .str a ∧ xs = [.ref p] ∧ (SqL K H p (ys.map V.str) ∨ SqT K H p (ys.map V.str)) ∧
    (ys.map (·.length)).sum + ys.length * a.length ≤ 16777216 ∧ Q (.str (Txt.join a ys)) H) := by
  intro N H x dx xs ds dz Q hN rx rs hz k
  unfold dJoin dJoinL at hz
  split at hz
  · rename_i a l
    cases hu : unStrs l with
    | none => rw [hu] at hz; cases hz
    | some ys =>
      simp only [hu] at hz
      split at hz
      · rename_i hl
        cases hz
        cases rx
        obtain ⟨y, rfl, r⟩ := rs.one
        obtain ⟨p, xs, rfl, hs, hl1, r1⟩ := r.list
        exact ⟨a, p, ys, rfl, rfl, .inl (unStrs_v r1 hu ▸ hs), hl, k _ H same_rfl (.str _)⟩
      · cases hz
  · rename_i a l
    cases hu : unStrs l with
    | none => rw [hu] at hz; cases hz
    | some ys =>
      simp only [hu] at hz
      split at hz
      · rename_i hl
        cases hz
        cases rx
        obtain ⟨y, rfl, r⟩ := rs.one
        obtain ⟨p, xs, rfl, hs, hl1, r1⟩ := r.tuple
        exact ⟨a, p, ys, rfl, rfl, .inr (unStrs_v r1 hu ▸ hs), hl, k _ H same_rfl (.str _)⟩
      · cases hz
  · cases hz
theorem de_split {apos cpos : Pos} (ho : PE X o (tD c W F)) (ha : PA X (e :: es) (tL c W FL))
    (hbase : attributeBase o "split" X.env (eval o X.env) = eval o X.env := by rfl)
    (hfew : ((backTo cpos (starEach (e :: es) X.env)).all (fun x => !x.1) && (backToKw cpos (keywordEach [] X.env)).all (fun x => x.1.isSome)
      && decide ((e :: es).length + ([] : List Keyword).length + (if ([] : List Keyword).isEmpty then 0 else 1) < 30)) = true := by rfl)
    (hline : (apos.endLine == cpos.line) = true := by rfl) (hs : starEach (e :: es) X.env = (false, eval e X.env) :: starEach es X.env := by rfl) (hplain : (backTo cpos (starEach es X.env)).any (·.1) = false := by rfl) :
    PE X (.Call (.Attribute o "split" apos) (e :: es) [] cpos) (tD c W (eMs dSplit F FL)) := de_ms PySem.F.slot_str_split PySem.F.type_str_split mt_split m_split ho ha hbase hfew hline hs hplain
theorem de_join {apos cpos : Pos} (hK : c.K = X.K) (ho : PE X o (tD c W F)) (ha : PA X (e :: es) (tL c W FL))
    (hbase : attributeBase o "join" X.env (eval o X.env) = eval o X.env := by rfl)
    (hfew : ((backTo cpos (starEach (e :: es) X.env)).all (fun x => !x.1) && (backToKw cpos (keywordEach [] X.env)).all (fun x => x.1.isSome)
      && decide ((e :: es).length + ([] : List Keyword).length + (if ([] : List Keyword).isEmpty then 0 else 1) < 30)) = true := by rfl)
    (hline : (apos.endLine == cpos.line) = true := by rfl) (hs : starEach (e :: es) X.env = (false, eval e X.env) :: starEach es X.env := by rfl) (hplain : (backTo cpos (starEach es X.env)).any (·.1) = false := by rfl) :
    PE X (.Call (.Attribute o "join" apos) (e :: es) [] cpos) (tD c W (eMs dJoin F FL)) := de_ms PySem.F.slot_str_join PySem.F.type_str_join mt_join (hK ▸ m_join) ho ha hbase hfew hline hs hplain

/-! slices -/
def pcN : Md (Option Int) := fun e => .ok none e
def pcS (F : Md D) : Md (Option Int) := bnd F fun x => match x with
  | .int i => fun e => .ok (some i) e
  | _ => fun _ => .stuck
def tP (c : Cfg) (W : WX) (F : Md (Option Int)) : TO := fun σ H Q => ∃ N0 e a, ER c N0 ⟨e, a, σ, H⟩ ∧ Post c W N0 ⟨e, a, σ, H⟩ (F e) fun o _ _ H' => Q o H'
theorem PO.imp {e : Option Expr} {t t' : TO} (h : PO X e t) (i : ∀ σ H Q, t' σ H Q → t σ H Q) : PO X e t' := ⟨fun pins s σ H Q I q => h.run pins s σ H Q I (i σ H Q q)⟩
theorem dp_none : PO X none (tP c W pcN) := PO.imp po_none fun σ H Q h => by
  obtain ⟨N0, e, a, er, h⟩ := h
  exact h a H er (Stp.refl _)
theorem dp_some (he : PE X e (tD c W F)) : PO X (some e) (tP c W (pcS F)) := PO.imp (po_some he) fun σ H Q h => by
  obtain ⟨N0, e0, a, er, h⟩ := h
  refine bindD er h fun x e1 a1 H1 v er1 st1 rx h => ?_
  cases x with
  | int i => cases rx; exact ⟨i, rfl, h a1 H1 er1 (Stp.refl _)⟩
  | _ => exact h.elim
theorem bindP {β : Type} {N0 : Addr → Prop} {e : Env} {a : Nat → List Addr} {σ : L2.St} {H : Hp} {F : Md (Option Int)} {k : Option Int → Md β} {P : β → Env → (Nat → List Addr) → Hp → Prop} {R : Option Int → Hp → Prop} (er : ER c N0 ⟨e, a, σ, H⟩) (h : Post c W N0 ⟨e, a, σ, H⟩ (bnd F k e) P)
    (g : ∀ x e1 a1 H1, ER c N0 ⟨e1, a1, σ, H1⟩ → Stp c ⟨e, a, σ, H⟩ ⟨e1, a1, σ, H1⟩ → Post c W N0 ⟨e1, a1, σ, H1⟩ (k x e1) P → R x H1) : tP c W F σ H R := by
  refine ⟨N0, e, a, er, ?_⟩
  unfold bnd at h
  revert h
  generalize F e = r
  cases r with
  | ok x e1 => exact fun h a1 H1 er1 st => g x e1 a1 H1 er1 st (Post.from h st rfl)
  | err cn fs e1 => exact fun h => h
  | stuck => exact fun h => h
/-- a cut of a row -/
def cutG {α : Type} (xs : List α) (lo hi : Option Int) : List α := (xs.drop (HT.sIx xs.length 0 lo)).take (HT.sIx xs.length xs.length hi - HT.sIx xs.length 0 lo)
def dSl (x : D) (lo hi : Option Int) : Option D := match x with
  | .list ds => some (.list (cutG ds lo hi))
  | .tuple ds => some (.tuple (cutG ds lo hi))
  | .str z => if z.length ≤ sizeLine then some (.str (cutS z lo hi)) else none
  | _ => none
def eSl (F : Md D) (Flo Fhi : Md (Option Int)) : Md D := bnd F fun x => bnd Flo fun lo => bnd Fhi fun hi => lft (dSl x lo hi)
abbrev rSlD (K : PySem.W.Frag) : V → Option Int → Option Int → Hp → VK → Prop := fun x lo hi H Q => (rSlL K x lo hi H Q ∨ rSlA K x lo hi H Q) ∨ rSlS x lo hi H Q
theorem cutV_rps {K : PySem.W.Frag} {N : Addr → Prop} {H : Hp} {xs : List V} {ds : List D} (r : Rps K N H xs ds) (lo hi : Option Int) : Rps K N H (cutV xs lo hi) (cutG ds lo hi) := by
  unfold cutV cutG
  rw [r.length]
  exact (r.drop _).take _
theorem sl_rp {K : PySem.W.Frag} {N : Addr → Prop} {H : Hp} {x : V} {dx dz : D} {lo hi : Option Int} {Q : VK} (hN : ∀ q, N q → H q ≠ none) (rx : Rp K N H x dx) (hz : dSl dx lo hi = some dz) (k : ∀ v H', Same H H' → Rp K N H' v dz → Q v H') : rSlD K x lo hi H Q := by
  unfold dSl at hz
  split at hz
  · cases hz
    obtain ⟨a, xs, rfl, hs, hl1, r1⟩ := rx.list
    exact .inl (.inl ⟨a, xs, rfl, hs, fun p hp => k _ _ (same_upd hp) ((cutV_rps r1 lo hi).newL hp (Nat.le_trans (cutV_length xs lo hi) hl1) hN)⟩)
  · cases hz
    obtain ⟨a, xs, rfl, hs, hl1, r1⟩ := id rx.tuple
    refine .inl (.inr ⟨a, xs, rfl, hs, fun hw => ?_, fun _ p hp => k _ _ (same_upd hp) ((cutV_rps r1 lo hi).newT hp (Nat.le_trans (cutV_length xs lo hi) hl1) hN)⟩)
    rename_i ds
    have e : cutG ds lo hi = ds := by
      unfold cutG
      rw [← r1.length, hw.1, hw.2]
      simp [r1.length]
    rw [e] at k
    exact k _ H same_rfl rx
  · split at hz
    · rename_i hl
      cases hz
      cases rx
      exact .inr ⟨_, rfl, hl, k _ H same_rfl (.str _)⟩
    · cases hz
  · cases hz
theorem de_sl {lo hi : Option Expr} {Flo Fhi : Md (Option Int)} {p2 : Pos} (hK : c.K = X.K) (he : PE X e (tD c W F)) (hl : PO X lo (tP c W Flo)) (hu : PO X hi (tP c W Fhi)) : PE X (.Subscript e (.Slice lo hi none p2) pos) (tD c W (eSl F Flo Fhi)) := by
  refine PE.imp (pe_slice (SlR.or (SlR.or sl_list sl_tupA) sl_str) he hl hu) fun σ H Q h => ?_
  obtain ⟨N0, e0, a, er, h⟩ := h
  refine bindD er h fun x e1 a1 H1 v er1 st1 rx h => ?_
  refine bindP er1 h fun l e2 a2 H2 er2 st2 h => ?_
  refine bindP er2 h fun u e3 a3 H3 er3 st3 h => ?_
  obtain ⟨z, hz, kk⟩ := post_lft (S := ⟨e3, a3, σ, H3⟩) h
  exact hK ▸ sl_rp er3.all_tr ((rx.step st2).step st3) hz fun w H' s rw => sameS (P := okD c N0 Q) er3 kk s w rw

/-! f-strings -/
/-- a part as a text -/
def dFmt : D → Option D
  | .str y => if y.length ≤ sizeLine then some (.str y) else none
  | .int i => if i.natAbs.log2 < 1920 then some (.str (toString i)) else none
  | _ => none
theorem de_fmt (he : PE X e (tD c W F)) : PE X (.FormattedValue e (-1) none pos) (tD c W (eOp1 dFmt F)) := by
  refine PE.imp (pe_fmt he) fun σ H Q h => ?_
  obtain ⟨N0, e0, a, er, h⟩ := h
  refine bindD er h fun x e1 a1 H1 v er1 st1 rx h => ?_
  obtain ⟨z, hz, kk⟩ := post_lft (S := ⟨e1, a1, σ, H1⟩) h
  unfold dFmt at hz
  split at hz
  · split at hz
    · rename_i y hl
      cases hz; cases rx
      exact .inl ⟨y, rfl, hl, kk a1 H1 er1 (Stp.refl _) _ (.str _)⟩
    · cases hz
  · split at hz
    · rename_i i hl
      cases hz; cases rx
      exact .inr ⟨i, rfl, hl, kk a1 H1 er1 (Stp.refl _) _ (.str _)⟩
    · cases hz
  · cases hz
/-- the parts one behind the other -/
def eJs : List (Md D) → Str → Md D
  | [], acc => fun e => .ok (.str acc) e
  | F :: r, acc => bnd F fun x => match x with
    | .str y => if (acc ++ y).length ≤ sizeLine then eJs r (acc ++ y) else fun _ => .stuck
    | _ => fun _ => .stuck
inductive DJ (X : Cx) (c : Cfg) (W : WX) : List Expr → List (Md D) → Prop
  | nil : DJ X c W [] []
  | cons {e : Expr} {F : Md D} {es : List Expr} {Fs : List (Md D)} : PE X e (tD c W F) → DJ X c W es Fs → DJ X c W (e :: es) (F :: Fs)
theorem DJ.pj : ∀ {es : List Expr} {Fs : List (Md D)}, DJ X c W es Fs → PJ X es (Fs.map (tD c W))
  | _, _, .nil => .nil
  | _, _, .cons h r => .cons h (DJ.pj r)
theorem js_of : ∀ (Fs : List (Md D)) (acc : Str) (σ : L2.St) (H : Hp) (Q : VK), tD c W (eJs Fs acc) σ H Q → tJs (Fs.map (tD c W)) acc σ H fun out H1 => Q (.str out) H1
  | [], acc, σ, H, Q, h => by
    obtain ⟨N0, e, a, er, h⟩ := h
    exact h a H er (Stp.refl _) _ (.str _)
  | F :: Fs, acc, σ, H, Q, h => by
    obtain ⟨N0, e, a, er, h⟩ := h
    show tD c W F σ H _
    refine bindD er h fun x e1 a1 H1 v er1 st1 rx h => ?_
    cases x with
    | str y =>
      cases rx
      by_cases hz : (acc ++ y).length ≤ sizeLine
      · simp only [if_pos hz] at h
        exact ⟨y, rfl, hz, js_of Fs (acc ++ y) σ H1 Q ⟨N0, e1, a1, er1, h⟩⟩
      · simp only [if_neg hz] at h; exact h.elim
    | _ => exact h.elim
theorem de_js {v1 v2 : Expr} {rest : List Expr} {Fs : List (Md D)} (h : DJ X c W (v1 :: v2 :: rest) Fs) : PE X (.JoinedStr (v1 :: v2 :: rest) pos) (tD c W (eJs Fs Str.empty)) :=
  PE.imp (pe_joined h.pj) fun σ H Q h => js_of Fs Str.empty σ H Q h
theorem de_js1 (he : PE X e (tD c W F)) : PE X (.JoinedStr [e] pos) (tD c W F) := pe_joined1 he

/-! the signs of a text -/
def itS : D → Option (List D)
  | .str z => if z.length ≤ sizeLine then some (z.cps.toList.map fun c => .str ⟨#[c]⟩) else none
  | _ => none
theorem di_str {tg : Expr} (he : PE X e (tD c W F)) : PI X tg e (tI c W (iOf itS F)) := by
  refine PI.imp (pi_str he) fun σ H R h => ?_
  obtain ⟨N0, e0, a, er, h⟩ := h
  refine ibindD er h fun x e1 a1 H1 v er1 st rx h => ?_
  cases x with
  | str z =>
    cases rx
    have h : PostI c W N0 ⟨e1, a1, σ, H1⟩ (lft (if z.length ≤ sizeLine then some (z.cps.toList.map fun c => PyData.str ⟨#[c]⟩) else none) e1) R := h
    split at h
    · rename_i hl
      refine ⟨z, rfl, h a1 H1 _ er1 (Stp.refl _) (by rw [List.length_map, Array.length_toList]; exact hl) ?_⟩
      intro N1 S1 _ _ _ _ i
      have hlen : (z.cps.toList.map fun c => PyData.str ⟨#[c]⟩).length = z.cps.size := by simp
      rw [hlen]
      refine ⟨fun hi => ⟨hi, fun v H2 y => ?_⟩, fun hi => hi⟩
      obtain ⟨e2, c', hc', rfl⟩ := y
      subst e2
      exact ⟨Same.refl _, .str ⟨#[c']⟩, by rw [List.getElem?_map, Array.getElem?_toList, hc']; rfl, .str _⟩
    · exact h.elim
  | _ => exact h.elim

/-! x, y = a, b -/
def sPar (i j : Nat) (FL : Md (List D)) : Sm := sB FL fun xs e => match xs with
  | [x, y] => .nx ((e.set i (.d x)).set j (.d y))
  | _ => .stuck
theorem sbindL {N0 : Addr → Prop} {e : Env} {a : Nat → List Addr} {σ : L2.St} {H : Hp} {F : Md (List D)} {k : List D → Sm} {D' : Ends} {R : List V → Hp → Prop} (er : ER c N0 ⟨e, a, σ, H⟩) (h : PostS c W N0 ⟨e, a, σ, H⟩ (sB F k e) D')
    (g : ∀ x e1 a1 H1 v, ER c N0 ⟨e1, a1, σ, H1⟩ → Stp c ⟨e, a, σ, H⟩ ⟨e1, a1, σ, H1⟩ → Rps c.K (NN N0 a1) H1 v x → PostS c W N0 ⟨e1, a1, σ, H1⟩ (k x e1) D' → R v H1) : tL c W F σ H R := by
  refine ⟨N0, e, a, er, ?_⟩
  unfold sB at h
  revert h
  generalize F e = r
  cases r with
  | ok x e1 => exact fun h a1 H1 er1 st v rv => g x e1 a1 H1 v er1 st rv (PostS.from h st)
  | err cn fs e1 => exact fun h => PErr.x h
  | stuck => exact fun h => h
theorem ds_par {i j : Nat} {x y : Str} {a b : Expr} {px py pt : Pos} {kt k2 pt2} (hc : X.calm = true) (hN : X.N.Nodup) (hi : X.N[i]? = some x) (hj : X.N[j]? = some y) (hij : i ≠ j)
    (hx : X.env.scope.names.lookup x = some .local) (hy : X.env.scope.names.lookup y = some .local) (ha : PA X [a, b] (tL c W FL))
    (hw : swappedStores [.Tuple [.Name x px, .Name y py] kt pt] (.Tuple [a, b] k2 pt2) X.env = pure (some [x, y]))
    (hs : swapsWithSole [.Tuple [.Name x px, .Name y py] kt pt] (.Tuple [a, b] k2 pt2) pos.line X.env = pure false := by rfl) :
    PS X (.Assign [.Tuple [.Name x px, .Name y py] kt pt] (.Tuple [a, b] k2 pt2) pos) (tS c W (sPar i j FL)) := by
  refine PS.imp (ps_par hc hN hi hj hij hx hy ha hw hs) fun D' σ H h => ?_
  obtain ⟨N0, e0, a0, er, h⟩ := h
  refine sbindL er h fun xs e1 a1 H1 vs er1 st rx h => ?_
  match xs, rx, h with
  | [d1, d2], .cons (v := v1) r1 (.cons (v := v2) r2 .nil), h =>
    refine ⟨v1, v2, rfl, ?_⟩
    have q := er1.set_d (j := i) r1
    have r2' : Rp c.K (NN N0 (fup a1 i [])) H1 v2 d2 := r2.mono fun p hp => hp.elim .inl fun ⟨k, z⟩ => .inr ⟨k, (fup_nil z).1⟩
    have q2 := q.1.set_d (j := j) r2'
    exact h _ _ H1 q2.1 (q.2.trans q2.2)
  | [], _, h => exact h.elim
  | [_], _, h => exact h.elim
  | _ :: _ :: _ :: _, _, h => exact h.elim
def sPar3 (i j l : Nat) (FL : Md (List D)) : Sm := sB FL fun xs e => match xs with
  | [x, y, z] => .nx (((e.set i (.d x)).set j (.d y)).set l (.d z))
  | _ => .stuck
theorem ds_par3 {i j l : Nat} {x y z : Str} {a b d : Expr} {px py pz pt : Pos} {kt k2 pt2} (hc : X.calm = true) (hN : X.N.Nodup) (hi : X.N[i]? = some x) (hj : X.N[j]? = some y) (hl : X.N[l]? = some z) (hij : i ≠ j) (hil : i ≠ l) (hjl : j ≠ l)
    (hx : X.env.scope.names.lookup x = some .local) (hy : X.env.scope.names.lookup y = some .local) (hz : X.env.scope.names.lookup z = some .local) (ha : PA X [a, b, d] (tL c W FL))
    (hw : swappedStores [.Tuple [.Name x px, .Name y py, .Name z pz] kt pt] (.Tuple [a, b, d] k2 pt2) X.env = pure (some [x, y, z]))
    (hs : swapsWithSole [.Tuple [.Name x px, .Name y py, .Name z pz] kt pt] (.Tuple [a, b, d] k2 pt2) pos.line X.env = pure false := by rfl) :
    PS X (.Assign [.Tuple [.Name x px, .Name y py, .Name z pz] kt pt] (.Tuple [a, b, d] k2 pt2) pos) (tS c W (sPar3 i j l FL)) := by
  refine PS.imp (ps_par3 hc hN hi hj hl hij hil hjl hx hy hz ha hw hs) fun D' σ H h => ?_
  obtain ⟨N0, e0, a0, er, h⟩ := h
  refine sbindL er h fun xs e1 a1 H1 vs er1 st rx h => ?_
  match xs, rx, h with
  | [d1, d2, d3], .cons (v := v1) r1 (.cons (v := v2) r2 (.cons (v := v3) r3 .nil)), h =>
    refine ⟨v1, v2, v3, rfl, ?_⟩
    have q := er1.set_d (j := i) r1
    have r2' : Rp c.K (NN N0 (fup a1 i [])) H1 v2 d2 := r2.mono fun p hp => hp.elim .inl fun ⟨k, z⟩ => .inr ⟨k, (fup_nil z).1⟩
    have r3' : Rp c.K (NN N0 (fup a1 i [])) H1 v3 d3 := r3.mono fun p hp => hp.elim .inl fun ⟨k, z⟩ => .inr ⟨k, (fup_nil z).1⟩
    have q2 := q.1.set_d (j := j) r2'
    have r3'' : Rp c.K (NN N0 (fup (fup a1 i []) j [])) H1 v3 d3 := r3'.mono fun p hp => hp.elim .inl fun ⟨k, z⟩ => .inr ⟨k, (fup_nil z).1⟩
    have q3 := q2.1.set_d (j := l) r3''
    exact h _ _ H1 q3.1 ((q.2.trans q2.2).trans q3.2)
  | [], _, h => exact h.elim
  | [_], _, h => exact h.elim
  | [_, _], _, h => exact h.elim
  | _ :: _ :: _ :: _ :: _, _, h => exact h.elim
/-! nothing is said -/
def eNo {α : Type} : Md α := fun _ => .stuck
def sNo : Sm := fun _ => .stuck
theorem de_no : PE X e (tD c W eNo) := ⟨fun _ _ _ _ _ _ ⟨_, _, _, _, h⟩ => h.elim⟩
theorem do_no : PE X e (tO c W eNo) := ⟨fun _ _ _ _ _ _ ⟨_, _, _, _, h⟩ => h.elim⟩
theorem dt_no : PT X e (tT c W eNo) := ⟨fun _ _ _ _ _ _ ⟨_, _, _, _, h⟩ => h.elim⟩
theorem ds_no {st : Stmt} : PS X st (tS c W sNo) := ⟨fun _ _ _ _ _ _ ⟨_, _, _, _, h⟩ => h.elim⟩
theorem dss_no {st : List Stmt} : PSs X st (tS c W sNo) := ⟨fun _ _ _ _ _ _ ⟨_, _, _, _, h⟩ => h.elim⟩
end
end VL

set_option Elab.async false
set_option autoImplicit false
set_option linter.all false
set_option maxRecDepth 100000
set_option maxHeartbeats 4000000
/-! VLX: own exceptions whose __init__ says super().__init__(..). -/
namespace VL
open PySem PySem.Spec PyProof.Rows L2 NdefX

/-- what the written part says of such an __init__: the class at C, its cell at cc -/
structure XFun (P : Program) (K : PySem.W.Frag) (x qual : Str) (params : Arguments) (body : List Stmt) (scope : Scope) (C cc cda f : Addr) (fd : FuncData) (slf : Str) (ar : Arg) : Prop where
  ex : ∃ (oc : Value) (od : Option Addr) (dV kV doc pm : Value) (an : Option Addr) (ct : Value) (osl : Array (Option Value)), fd = PySem.W.fnX x qual params body scope [("__class__", cc)] dV kV doc pm an (.ref cda) ct ∧ K.lookup f = some ⟨oc, od, .func fd, osl⟩
  code : PySem.W.codeIn K (.ref cda) qual = true
  file : ∃ (ccl : Value) (cdd : Option Addr) (vs : Array Value) (ccs : Array (Option Value)) (fl : Str) (tf : Tok), K.lookup cda = some ⟨ccl, cdd, .fields vs, ccs⟩ ∧ vs[2]? = some (.str fl tf) ∧ ((P.main.file : Str) == fl) = true
  cell : ∃ (cl : Value) (cld : Option Addr) (csl : Array (Option Value)), K.lookup cc = some ⟨cl, cld, .cell (some (.ref C)), csl⟩
  fst : (params.posonlyargs ++ params.args).head? = some ar
  arg : ar.arg = slf
  kS : scope.names.lookup ("super" : Str) = some .globalImplicit
  kC : scope.names.lookup ("__class__" : Str) = some .free
  top : (P.main.scope.names.lookup ("super" : Str)).isSome = false
  isC : ∃ cd, PySem.W.clsIn K C = some cd ∧ PySem.W.alongIn K "__init__" ((cd.mro.dropWhile (· != .ref C)).drop 1) = some (some (.builtin "ValueError.__init__"))
  subC : PySem.W.mroIn K C (.ref C) = some true
  subV : PySem.W.mroIn K C (.type "ValueError") = some true
  opq : PySem.W.nsIn K cStatics "thirdparty.any" = some none

section
variable {P : Program} {w : World} {K : PySem.W.Frag} {mg : Str → Option Value} {base : Heap} {x qual self : Str} {params : Arguments} {body : List Stmt} {scope : Scope} {C cc cda f : Addr} {fd : FuncData} {ar : Arg}
abbrev nfX (x qual : Str) (params : Arguments) (body : List Stmt) (scope : Scope) (cc cda : Addr) : NF := ⟨x, qual, params, body, scope, [("__class__", cc)], cda⟩
/-- super().__init__(..): nothing of it is told -/
theorem super_init {N : List Str} {A : Around} {outer : List PySem.Env} {s0 s : Shared} {H0 H : Hp} {E0 : XK} {σ : L2.St} {a : Addr} {e : Expr} {es : List Expr} {p0 p1 ap p3 p4 : Pos} {t : TA} {i j : Nat} {pl : Sem Bool}
    (XF : XFun P K x qual params body scope C cc cda f fd self ar) (T : OexC K C) (hmg : mg "super" = none) (hsc : scope.kind = .function) (gl : Gl (ncx (L2.CX P w) P w K mg base N (nfX x qual params body scope cc cda) f A outer s0 H0 E0) "super")
    (I : Inv (ncx (L2.CX P w) P w K mg base N (nfX x qual params body scope cc cda) f A outer s0 H0 E0) [] σ H s) (hi : N[i]? = some self) (hσ : σ[i]? = some (some (.ref a))) (hv : Vis scope self) (hj : N[j]? = some ("__class__" : Str)) (hσj : σ[j]? = some (some (.ref C))) (he : H a = some (exo a C none))
    (hself : (self == ("__debug__" : Str)) = false) (hself2 : (self == ("__classdict__" : Str)) = false)
    (ha : PA (ncx (L2.CX P w) P w K mg base N (nfX x qual params body scope cc cda) f A outer s0 H0 E0) (e :: es) t) (ht : t σ H fun vs H1 => H1 = H ∧ vs.length ≤ 1000)
    (hst : starEach (e :: es) (envF (nfX x qual params body scope cc cda) f s0.heap.objs.size) = (false, eval e (envF (nfX x qual params body scope cc cda) f s0.heap.objs.size)) :: starEach es (envF (nfX x qual params body scope cc cda) f s0.heap.objs.size))
    (hpl : (backTo p3 (starEach es (envF (nfX x qual params body scope cc cda) f s0.heap.objs.size))).any (·.1) = false)
    (hev : eval (.Call (.Attribute (.Call (.Name "super" p0) [] [] p1) "__init__" ap) (e :: es) [] p3) (envF (nfX x qual params body scope cc cda) f s0.heap.objs.size) = (do
      let ov ← attributeBase (.Call (.Name "super" p0) [] [] p1) "__init__" (envF (nfX x qual params body scope cc cda) f s0.heap.objs.size) (eval (.Call (.Name "super" p0) [] [] p1) (envF (nfX x qual params body scope cc cda) f s0.heap.objs.size))
      standAt ap.atName
      let (f', first) ← holding [ov] (getMethod ov "__init__" pl)
      callWith p3 f' first (backTo p3 (starEach (e :: es) (envF (nfX x qual params body scope cc cda) f s0.heap.objs.size))) []))
    (hin : interactive (envF (nfX x qual params body scope cc cda) f s0.heap.objs.size) = false) (hsw : swapsWith (.Call (.Attribute (.Call (.Name "super" p0) [] [] p1) "__init__" ap) (e :: es) [] p3) none p4.line (envF (nfX x qual params body scope cc cda) f s0.heap.objs.size) = pure false) :
    PySem.wpAt (model P w) (A.deeper (envF (nfX x qual params body scope cc cda) f s0.heap.objs.size)) (.func body (envF (nfX x qual params body scope cc cda) f s0.heap.objs.size)) (exec (.Expr (.Call (.Attribute (.Call (.Name "super" p0) [] [] p1) "__init__" ap) (e :: es) [] p3) p4) (envF (nfX x qual params body scope cc cda) f s0.heap.objs.size))
      (fun fl s' => fl = .next ∧ Inv (ncx (L2.CX P w) P w K mg base N (nfX x qual params body scope cc cda) f A outer s0 H0 E0) [] σ H s') (ncx (L2.CX P w) P w K mg base N (nfX x qual params body scope cc cda) f A outer s0 H0 E0).xe s := by
  have KX : K.In s.heap := I.kIn
  obtain ⟨t1, ho⟩ := exo_at I.hok he
  obtain ⟨oc, od, dV, kV, doc, pm, an, ct, osl, rfl, lk⟩ := XF.ex
  obtain ⟨ccl, cdd, vs, ccs, fl, tf, lcd, hvs, hfl⟩ := XF.file
  obtain ⟨cl, cld, csl, lcc⟩ := XF.cell
  obtain ⟨cd, hcd, hal⟩ := XF.isC
  obtain ⟨nm, q, N', bs, bm, sn, sub, ab, col, dd, k0, k1, k2, k3, k5, hC, hbm⟩ := T.cls
  have hC' := KX _ _ hC
  obtain ⟨oD, hD1, hD2⟩ : ∃ oD, s.heap.get? C = some oD ∧ oD.data = .cls cd := by
    have hcd := hcd
    unfold PySem.W.clsIn at hcd
    split at hcd
    · rename_i c d cd' sl ho'
      cases hcd
      exact ⟨_, KX _ _ ho', rfl⟩
    · cases hcd
  obtain ⟨mb, hb1, hb2⟩ := I.mod.blt
  have I0 : PySem.W.InstAt s.heap a { cls := .ref C, dict := none, data := .fields #[.ref t1, .none, .none, .none, .bool false, .none] } C none := ⟨ho, rfl, rfl, trivial⟩
  have hne : a ≠ C := PySem.W.ks_ne KX I0 hcd
  obtain ⟨hh, g, d, tk, os⟩ := s
  refine ks_wpAt_Expr_any (ks_wpAt_MethodCall (ks_wpAt_super_base (env := envF (nfX x qual params body scope cc cda) f s0.heap.objs.size) XF.kS XF.kC rfl rfl (KX _ _ lk) rfl XF.fst rfl (KX _ _ lcd) rfl hvs hfl XF.top ?_) hev) hin hsw
  refine PySem.W.ks_loadName_global hsc XF.kS (Calls.loadGlobal_builtin (env := envF (nfX x qual params body scope cc cda) f s0.heap.objs.size) (I.mod.glob.keeps I.bk) hmg (hb1.keeps I.bk) ((hb2 "super" (by decide +kernel)).trans (by decide +kernel)) ⟨rfl, ?_⟩)
  refine wpAny_loadName_free hsc XF.kC rfl ⟨_, KX _ _ lcc, rfl⟩ ?_
  obtain ⟨m, hn, hl⟩ := I.loc
  obtain ⟨u, ru, lu⟩ := hl i self (.ref a) hi hσ hv
  obtain rfl : u = Value.ref a := ru
  rw [XF.arg]
  have ldself : ∀ {Q : Value → Shared → Prop} {E : Value → Shared → Prop}, Q (.ref a) ⟨hh, g, d, tk, os⟩ → wpAny (model P w) (A.deeper (envF (nfX x qual params body scope cc cda) f s0.heap.objs.size)) (loadName (envF (nfX x qual params body scope cc cda) f s0.heap.objs.size) self) Q E ⟨hh, g, d, tk, os⟩ := by
    intro Q E h
    rcases lu with ⟨hk, hm⟩ | ⟨hk, c, hc, hcell⟩
    · exact wpAny_loadName_local hsc hk hn hm h
    · rcases hk with hk | hk
      · exact wpAny_loadName_cell hsc hk hc hcell h
      · exact wpAny_loadName_free hsc hk hc hcell h hself2
  refine ldself ?_
  refine ks_wpAny_isType_cls hD1 hD2 ⟨rfl, ?_⟩
  refine ks_wpAny_call_super hD1 hD2 I0.at_ I0.cls (fun c e => nomatch e) (PySem.W.looks_mroIn KX XF.subC) (fun h' hso kp => ?_)
  have I1 : Inv (ncx (L2.CX P w) P w K mg base N (nfX x qual params body scope cc cda) f A outer s0 H0 E0) [] σ H ⟨h', g, d, tk, os⟩ := I.kept (t' := tk) kp
  have KX1 : K.In h' := I1.kIn
  have I01 : PySem.W.InstAt h' a { cls := .ref C, dict := none, data := .fields #[.ref t1, .none, .none, .none, .bool false, .none] } C none := ⟨kp _ _ ho, rfl, rfl, trivial⟩
  refine PySem.W.kxs_getMethod PySem.W.kxs_ValueError hso (PySem.W.looks_opaque KX1 XF.opq) (l₀ := cd.mro) (fun A Q E s k q => wpAny_bind ((PySem.W.looks_clsIn KX1 hcd) A _ E s k (wpAny_pure q))) rfl KX1 hal (I01.type.andThen (PySem.W.looks_mroIn KX1 XF.subV)) hne (by decide +kernel) ?_
  have hsz : h'.objs.size ≤ h'.objs.size := Nat.le_refl _
  have kp2 : ∀ b o, h'.get? b = some o → (h'.push (PySem.W.kxs_mw "ValueError.__init__" a)).get? b = some o := fun b o e => Heap.get?_push_of_some _ e
  have hu : (h'.push (PySem.W.kxs_mw "ValueError.__init__" a)).get? h'.objs.size = some (PySem.W.kxs_mw "ValueError.__init__" a) := Heap.get?_push_size _ rfl
  have fp := I1.fpOk (H' := H) (b := h'.objs.size) hsz (I1.hok.fresh hsz)
  have I2 : Inv (ncx (L2.CX P w) P w K mg base N (nfX x qual params body scope cc cda) f A outer s0 H0 E0) [(h'.objs.size, PySem.W.kxs_mw "ValueError.__init__" a)] σ H ⟨h'.push (PySem.W.kxs_mw "ValueError.__init__" a), g, d, tk + 1, os⟩ := by
    refine (I1.kept (t' := tk + 1) kp2).pins_of fun p hp => ?_
    have hp' : p = (h'.objs.size, PySem.W.kxs_mw "ValueError.__init__" a) := by
      have : p ∈ ([] : List (Addr × Obj)) ++ [(h'.objs.size, PySem.W.kxs_mw "ValueError.__init__" a)] := hp
      simpa using this
    subst hp'
    exact ⟨hu, fp.1, fp.2.1, fp.2.2.1, fun v z => nomatch z⟩
  refine PySem.W.kxs_callWith (i := "ValueError.__init__") (x := a) (by rw [hst]; show (false || (backTo p3 (starEach es _)).any (·.1)) = false; rw [hpl]; rfl) ?_
  rw [hst]
  refine Calls.evalArgs_plain ?_
  have hrun := ha.run p3 [(h'.objs.size, PySem.W.kxs_mw "ValueError.__init__" a)] _ σ H _ I2 ht
  rw [show (ncx (L2.CX P w) P w K mg base N (nfX x qual params body scope cc cda) f A outer s0 H0 E0).env = envF (nfX x qual params body scope cc cda) f s0.heap.objs.size from rfl, hst] at hrun
  refine thn hrun fun us s3 hq => ?_
  obtain ⟨ws, H3, I3, rv, hH, hlen⟩ := hq
  have hH : H3 = H := hH
  subst hH
  have hu3 := (I3.pin (h'.objs.size, PySem.W.kxs_mw "ValueError.__init__" a) (by show _ ∈ ([] : List (Addr × Obj)) ++ [_]; simp)).1
  refine ⟨hu3, ?_⟩
  obtain ⟨t3, ho3⟩ := exo_at I3.hok he
  have hC3 := I3.kIn _ _ hC
  obtain ⟨hh3, g3, d3, tk3, os3⟩ := s3
  have hlen' : us.length ≤ sizeLine := by
    have : ws.length ≤ 1000 := hlen
    rw [← Paired.length rv, sizeLine_eq]
    omega
  refine wpAny_call (codeAny_of_tree ?_)
  show wpAny _ _ (callAny (.ref h'.objs.size) ⟨us, []⟩) _ _ _
  simp only [callAny]
  refine wpAny_bind (wpAny_load hu3 ?_)
  simp only [PySem.W.kxs_mw, show (Value.type "method-wrapper" == Value.type "method" || Value.type "method-wrapper" == Value.type "builtin_function_or_method" || Value.type "method-wrapper" == Value.type "method-wrapper") = true by decide, if_true]
  refine PySem.W.KFB.if_so (by decide) ?_
  refine wpAny_bind (PySem.W.check_bound_init F.excBase_ValueError.toExcCallFacts hC3 ho3 rfl ?_)
  refine wpAny_bind (wpAny_pure (wpAny_pure ?_))
  refine ⟨plainId_quiet F.excBase_ValueError.init.plain _, codeAny_builtin F.excBase_ValueError.initEntry ?_⟩
  refine PySem.W.exc_init_tree (cls := .ref C) (t0 := t3) (dv := none) (c2 := .none) (c3 := .none) (b4 := .bool false) ho3 hlen' (fun h4 k4 e4 t4 => ?_)
  have J := I3.write (t' := tk3) (x := a) (e := a) (o := exo a C none) (by rw [he]; exact True.intro) (.inl rfl) k4 ⟨_, e4⟩ (exo_ok e4)
  have eu : upd H3 a (exo a C none) = H3 := by
    funext b
    by_cases hb : b = a
    · rw [hb, upd_same, he]
    · rw [upd_ne hb]
  rw [eu] at J
  exact ⟨by first | rfl | trivial, J.pins_of fun p hp => J.pin p (List.mem_append_left _ (by simpa using hp))⟩

/-- the promise: the words are stored in an order, the exception has its dict -/
def spE (C : Addr) (fns : List Str) : Sp := fun vs H Q _ => vs.length = fns.length + 1 ∧ ∃ a ws, vs = .ref a :: ws ∧ H a = some (exo a C none) ∧
  ∀ H2 dx, H dx = none → dx ≠ a → H2 a = some (exo a C (some dx)) → H2 dx = some (exd dx (fns.zip ws).reverse) → (∀ b, b ≠ a → b ≠ dx → H2 b = H b) → Q .non H2
theorem cells_at {H : Hp} {s : Shared} {A : Around} {outer : List PySem.Env} (XF : XFun P K x qual params body scope C cc cda f fd self ar) (e0 : Env0 P w K mg base A outer s H) : CellsAt [("__class__", cc)] ["__class__"] [some (.ref C)] s.heap H := by
  obtain ⟨cl, cld, csl, lcc⟩ := XF.cell
  have hb := e0.bs _ _ (e0.mod.kin _ _ lcc)
  have key : ∀ (y : Str) (c : Addr), List.lookup y [(("__class__" : Str), cc)] = some c → y = ("__class__" : Str) ∧ c = cc := fun y c h => by
    rw [List.lookup_cons] at h
    cases hy : (y == ("__class__" : Str)) with
    | true =>
      rw [hy] at h
      cases h
      exact ⟨eq_of_beq hy, rfl⟩
    | false =>
      rw [hy] at h
      cases h
  have self_ : List.lookup ("__class__" : Str) [(("__class__" : Str), cc)] = some cc := by
    rw [List.lookup_cons, beq_self_eq_true]
  refine ⟨rfl, fun y c h => ?_, fun y z c h1 h2 => (key y c h1).1.trans (key z c h2).1.symm, fun i y h => ?_⟩
  · obtain ⟨_, rfl⟩ := key y c h
    exact ⟨hb.2, _, ⟨_, hb.1, rfl⟩⟩
  · cases i with
    | zero =>
      cases h
      refine ⟨cc, self_, fun v hv => ?_⟩
      cases hv
      exact ⟨.ref C, rfl, ⟨_, hb.1, rfl⟩⟩
    | succ i => cases h
/-- such an __init__ keeps its promise -/
theorem exc_fn {N ps fns : List Str} {k : Nat} {rest : List Stmt} {e : Expr} {es : List Expr} {p0 p1 ap p3 p4 : Pos} {t : TA} {j : Nat} {pl : Sem Bool} {T2 : TS}
    (XF : XFun P K x qual params body scope C cc cda f fd self ar) (T : OexC K C) (hmg : mg "super" = none) (S : NScope N ps ["__class__"] scope) (hps : ps.length = fns.length + 1) (hbody : body = .Expr (.Call (.Attribute (.Call (.Name "super" p0) [] [] p1) "__init__" ap) (e :: es) [] p3) p4 :: rest)
    (hi : N[0]? = some self) (hp0 : ps[0]? = some self) (hj : N[j]? = some ("__class__" : Str)) (hv : Vis scope self) (hself : (self == ("__debug__" : Str)) = false) (hself2 : (self == ("__classdict__" : Str)) = false)
    (ha : ∀ (A : Around) (outer : List PySem.Env) (s : Shared) (H : Hp) (E : XK), PA (ncx (L2.CX P w) P w K mg base N (nfX x qual params body scope cc cda) f A outer s H E) (e :: es) t)
    (ht : ∀ (a : Addr) (ws : List V) (H : Hp), ws.length = fns.length → t (startF N (.ref a :: ws) [some (.ref C)]) H fun vs H1 => H1 = H ∧ vs.length ≤ 1000)
    (hr2 : ∀ (A : Around) (outer : List PySem.Env) (s : Shared) (H : Hp) (E : XK), PSs (ncx (L2.CX P w) P w K mg base N (nfX x qual params body scope cc cda) f A outer s H E) rest T2)
    (hT2 : ∀ (a : Addr) (ws : List V) (H : Hp) (Q : VK), ws.length = fns.length → H a = some (exo a C none) → (∀ H2 dx, H dx = none → dx ≠ a → H2 a = some (exo a C (some dx)) → H2 dx = some (exd dx (fns.zip ws).reverse) → (∀ b, b ≠ a → b ≠ dx → H2 b = H b) → Q .non H2) → T2 { nx := fun _ H' => Q .non H', rt := Q } (startF N (.ref a :: ws) [some (.ref C)]) H)
    (hst : ∀ L, starEach (e :: es) (envF (nfX x qual params body scope cc cda) f L) = (false, eval e (envF (nfX x qual params body scope cc cda) f L)) :: starEach es (envF (nfX x qual params body scope cc cda) f L))
    (hpl : ∀ L, (backTo p3 (starEach es (envF (nfX x qual params body scope cc cda) f L))).any (·.1) = false)
    (hev : ∀ L, eval (.Call (.Attribute (.Call (.Name "super" p0) [] [] p1) "__init__" ap) (e :: es) [] p3) (envF (nfX x qual params body scope cc cda) f L) = (do
      let ov ← attributeBase (.Call (.Name "super" p0) [] [] p1) "__init__" (envF (nfX x qual params body scope cc cda) f L) (eval (.Call (.Name "super" p0) [] [] p1) (envF (nfX x qual params body scope cc cda) f L))
      standAt ap.atName
      let (f', first) ← holding [ov] (getMethod ov "__init__" pl)
      callWith p3 f' first (backTo p3 (starEach (e :: es) (envF (nfX x qual params body scope cc cda) f L))) []))
    (hin : ∀ L, interactive (envF (nfX x qual params body scope cc cda) f L) = false) (hsw : ∀ L, swapsWith (.Call (.Attribute (.Call (.Name "super" p0) [] [] p1) "__init__" ap) (e :: es) [] p3) none p4.line (envF (nfX x qual params body scope cc cda) f L) = pure false) :
    FnOk P w K mg base (L2.CX P w) (k + 1) f fd ps (spE C fns) := by
  refine ⟨fun vs H Q E h => by rw [hps]; exact h.1, fun A outer s H args us vs Q E hr e0 hbi r hsp => ?_⟩
  obtain ⟨hlen, a, ws, rfl, hea, hq⟩ := hsp
  have hwl : ws.length = fns.length := by simpa using hlen
  have hl : (V.ref a :: ws).length = ps.length := hlen.trans hps.symm
  have KX : K.In s.heap := e0.mod.kin.keeps fun b o e => (e0.bs b o e).1
  have lim : s.heap.NoLimit := e0.mod.nolimit.keeps fun b o e => (e0.bs b o e).1
  obtain ⟨oc, od, dV, kV, doc, pm, an, ct, osl, hfd, lk⟩ := id XF.ex
  have hCA := cells_at XF e0
  subst hfd
  refine ks_codeAny_call_defAt (fd := PySem.W.fnX x qual params body scope [("__class__", cc)] dV kV doc pm an (.ref cda) ct) (body := body) (binds := ps.zip us) hr.depth (KX _ _ lk) rfl lim (PySem.W.codeRec_of KX XF.code) rfl hbi S.nocell (fun y hy => S.par y.1 (List.of_mem_zip hy).1) (fun h₁ hns hk₁ => ?_) S.co S.gen S.kind
  have I : Inv (ncx (L2.CX P w) P w K mg base N (nfX x qual params body scope cc cda) f A outer s H E) [] (startF N (.ref a :: ws) [some (.ref C)]) H { s with heap := h₁, toks := s.toks + (ps.zip us).length } := inv_startN S hr.hd e0 hl r hCA hns hk₁
  have hbody' := hbody
  have gl : Gl (ncx (L2.CX P w) P w K mg base N (nfX x qual params body scope cc cda) f A outer s H E) "super" := XF.kS
  have hσ0 : (startF N (V.ref a :: ws) [some (V.ref C)])[0]? = some (some (.ref a)) := rfl
  have hσj : (startF N (V.ref a :: ws) [some (V.ref C)])[j]? = some (some (.ref C)) := by
    have hn : N[ps.length]? = some ("__class__" : Str) := by
      have e1 : (N.take (ps.length + 1))[ps.length]? = (ps ++ [("__class__" : Str)])[ps.length]? := by rw [show N.take (ps.length + 1) = ps ++ [("__class__" : Str)] from S.pre]
      rw [List.getElem?_take_of_lt (by omega)] at e1
      rw [e1]; simp
    have hjj : j = ps.length := (List.getElem?_inj (List.getElem?_eq_some_iff.mp hj).1 S.nd).mp (hj.trans hn.symm)
    rw [hjj, ← hl]
    unfold startF
    rw [List.getElem?_append_right (by simp)]
    simp
  have key := super_init (p1 := p1) (ap := ap) (p4 := p4) (p0 := p0) XF T hmg S.kind gl I hi hσ0 hv hj hσj hea hself hself2 (ha A outer s H E) (ht a ws H hwl) (hst _) (hpl _) (hev _) (hin _) (hsw _)
  have hrun := hr2 A outer s H E
  show _root_.PySem.wpAt (model P w) (A.deeper (envF (nfX x qual params body scope cc cda) f s.heap.objs.size)) (.func body (envF (nfX x qual params body scope cc cda) f s.heap.objs.size)) (execs body (envF (nfX x qual params body scope cc cda) f s.heap.objs.size)) _ _ _
  have goal : _root_.PySem.wpAt (model P w) (A.deeper (envF (nfX x qual params body scope cc cda) f s.heap.objs.size)) (.func body (envF (nfX x qual params body scope cc cda) f s.heap.objs.size)) (execs (.Expr (.Call (.Attribute (.Call (.Name "super" p0) [] [] p1) "__init__" ap) (e :: es) [] p3) p4 :: rest) (envF (nfX x qual params body scope cc cda) f s.heap.objs.size))
      (fun f' s' => (CR (L2.CX P w) outer P w H s Q E) (.ok (.ret (match f' with | .ret v => v | _ => .none))) s') (ncx (L2.CX P w) P w K mg base N (nfX x qual params body scope cc cda) f A outer s H E).xe { s with heap := h₁, toks := s.toks + (ps.zip us).length } := by
    refine ks_wpAt_execs_cons (ks_wpAt_mono key (fun fl s' hs => ?_) fun _ _ z => z)
    obtain ⟨rfl, I2⟩ := hs
    refine wpAt_of_wpAny (wpAny_mono (hrun.run [] s' _ H { nx := fun _ H' => Q .non H', rt := Q } I2 (hT2 a ws H Q hwl hea hq)) (fun fl s'' hs => ?_) fun _ _ z => z)
    have fin : ∀ {σ' : L2.St} {H' : Hp} {v : V} {u : Value}, Inv (ncx (L2.CX P w) P w K mg base N (nfX x qual params body scope cc cda) f A outer s H E) [] σ' H' s'' → RelV v u → Q v H' → CE outer P w H s Q u s'' :=
      fun {σ' H' v u} J rv q => ⟨v, H', J.os, J.bare, J.base, J.hok, rv, q⟩
    cases fl with
    | ret u =>
      obtain ⟨v, σ', H', J, rv, q⟩ := hs
      exact fin J rv q
    | next =>
      obtain ⟨σ', H', J, q⟩ := hs
      exact fin (v := V.non) (u := Value.none) J rfl q
    | brk =>
      obtain ⟨_, _, _, q⟩ := hs
      exact False.elim q
    | cont =>
      obtain ⟨_, _, _, q⟩ := hs
      exact False.elim q
  rw [← hbody] at goal
  exact goal
end

/-! ### raise C(..) -/
inductive Rf (K : PySem.W.Frag) (N : Addr → Prop) (H : Hp) : List (Str × V) → List (Str × D) → Prop
  | nil : Rf K N H [] []
  | cons {n : Str} {v : V} {x : D} {l : List (Str × V)} {m : List (Str × D)} : Rp K N H v x → Rf K N H l m → Rf K N H ((n, v) :: l) ((n, x) :: m)
section
variable {K : PySem.W.Frag} {N : Addr → Prop} {H H' : Hp}
theorem Rf.app : ∀ {l : List (Str × V)} {m : List (Str × D)} {l' : List (Str × V)} {m' : List (Str × D)}, Rf K N H l m → Rf K N H l' m' → Rf K N H (l ++ l') (m ++ m')
  | _, _, _, _, .nil, h => h
  | _, _, _, _, .cons r t, h => .cons r (Rf.app t h)
theorem Rf.rev : ∀ {l : List (Str × V)} {m : List (Str × D)}, Rf K N H l m → Rf K N H l.reverse m.reverse
  | _, _, .nil => .nil
  | _, _, .cons r t => by
    rw [List.reverse_cons, List.reverse_cons]
    exact Rf.app (Rf.rev t) (.cons r .nil)
theorem Rf.zip : ∀ (ns : List Str) {vs : List V} {xs : List D}, Rps K N H vs xs → Rf K N H (ns.zip vs) (ns.zip xs)
  | [], _, _, _ => by simp; exact .nil
  | _ :: _, _, _, .nil => by simp; exact .nil
  | n :: ns, _, _, .cons r t => by
    rw [List.zip_cons_cons, List.zip_cons_cons]
    exact .cons r (Rf.zip ns t)
theorem Rf.fr : ∀ {l : List (Str × V)} {m : List (Str × D)}, Rf K N H l m → Fr K N H l m
  | _, _, .nil => fun n x e => by cases e
  | _, _, .cons (n := n') (v := v) (x := x') r t => fun n x e => by
    rw [List.lookup_cons] at e ⊢
    cases hg : (n == n') with
    | true =>
      rw [hg] at e
      cases e
      exact ⟨v, rfl, r⟩
    | false =>
      rw [hg] at e
      exact Rf.fr t n x e
end
def sRaise (cn : Str) (fns : List Str) (FL : Md (List D)) : Sm := sB FL fun xs e => if xs.length = fns.length ∧ fns.length ≤ 100 then .err cn (fns.zip xs).reverse e else .stuck
theorem no_pass {X : Cx} : Passes (L2.CX X.prog X.w) X (fun _ _ _ => False) := fun pins σ H s e s' I h => by
  obtain ⟨_, _, _, _, _, _, _, _, _, _, _, _, hE⟩ := h
  exact hE.elim
theorem ds_raise {gb : Bool} {X : Cx} {c : Cfg} {W : WX} {e : Expr} {es : List Expr} {pos p cpos : Pos} {FL : Md (List D)} {x cn : Str} {C fI : Addr} {k : Nat} {fd : FuncData} {ps fns : List Str} (hK : c.K = X.K) (hC : c.CT cn = some C) (hc : X.calm = true) (tk : Takes X W) (T : OexC X.K C) (iC : PySem.W.findIn X.K (.ref C) "__init__" = some (some (.ref fI))) (tI : PySem.W.typeIn X.K (.ref fI) = some (.type "function"))
    (F1 : FnOk X.prog X.w X.K X.mg X.base (L2.CX X.prog X.w) k fI fd ps (spE C fns)) (hr : Rm gb (k + 1) X.A) (hb : Binds X.K fd ps []) (hg : Gl X x) (hm : X.mg x = some (.ref C)) (ha : PA X (e :: es) (tL c W FL))
    (hdb : (x == ("__debug__" : Str)) = false := by decide +kernel) (he : starEach (e :: es) X.env = (false, eval e X.env) :: starEach es X.env := by rfl) (hpl : (backTo cpos (starEach es X.env)).any (·.1) = false := by rfl) :
    PS X (.Raise (some (.Call (.Name x p) (e :: es) [] cpos)) none pos) (tS c W (sRaise cn fns FL)) := by
  refine PS.imp (ps_raise hc tk (pmk_oex T iC tI F1 hr.r hb (dvs := []) .nil no_pass hg hm ha hdb he hpl)) fun D' σ H h => ?_
  obtain ⟨N0, e0, a0, er, h⟩ := h
  show tL c W FL σ H _
  refine sbindL er h fun xs e1 a1 H1 vs er1 st rx h => ?_
  obtain ⟨⟨hl, h100⟩, h⟩ := h.ite
  have hvl := rx.length
  refine ⟨by omega, fun a ha1 => ⟨by simp only [List.append_nil, List.length_cons]; omega, a, vs ++ [], rfl, upd_same, fun H2 dx hdx hne h2a h2d hb => ⟨rfl, dx, _, h2a, h2d, ?_, ?_⟩⟩⟩
  · rw [upd_ne hne] at hdx
    exact hdx
  · rw [upd_ne hne] at hdx
    rw [List.append_nil] at h2d ⊢
    have sm : Same H1 (upd (del H2 a) dx (.xd (fns.zip vs).reverse)) := fun b o q => by
      have h1 : b ≠ a := fun z => by rw [z, ha1] at q; exact nomatch q
      have h2 : b ≠ dx := fun z => by rw [z, hdx] at q; exact nomatch q
      rw [upd_ne h2, del_ne h1, hb b h1 h2, upd_ne h1]
      exact q
    exact h a1 σ _ C dx _ (er1.grow (S := ⟨e1, a1, σ, H1⟩) sm) (Stp.grow (S := ⟨e1, a1, σ, H1⟩) sm) hC upd_same (Rf.fr (Rf.rev (Rf.zip fns (rx.same sm)))) (fun z => er1.all_tr dx z hdx)
end VL

set_option Elab.async false
set_option autoImplicit false
set_option linter.all false
set_option maxRecDepth 100000
set_option maxHeartbeats 4000000
/-! VLY: try, except .. as e, the caught exception asked. -/
namespace VL
open PySem PySem.Spec PyProof.Rows L2 LamX
def SV.simp : SV → Bool
  | .oi _ _ => false
  | _ => true
def unx1 : SV → SV
  | .xo _ _ => .unset
  | s => s
def isX : SV → Bool
  | .xo _ _ => true
  | _ => false
section
variable {c c' : Cfg} {N0 : Addr → Prop}
theorem ER.xp {S : Sx} (h : ER c N0 S) (hK : c.K = c'.K) (hC : c.CT = c'.CT) (hT : c.tt = c'.tt) (hX : ∀ p d k, c.xp p d k → c'.xp p d k) : ER c' N0 S := by
  refine ⟨h.len, fun i sv q => ?_, h.zero, h.nd, h.dj, h.n0, h.tr, hT ▸ h.tb⟩
  rcases h.slot i sv q with z | ⟨v, e1, s1⟩
  · exact .inl z
  · exact .inr ⟨v, e1, s1.np hK hC hX⟩
theorem Stp.cfg {S S' : Sx} (h : Stp c S S') (hn : c.np = c'.np) : Stp c' S S' := ⟨h.ln, h.ext, h.new, hn ▸ h.kp⟩
theorem Sr.unx {N : Addr → Prop} {H : Hp} {v : V} {sv : SV} {as : List Addr} (h : Sr c N H v sv as) (hK : c.K = c'.K) (hs : sv.simp = true) (hx : isX sv = false) : Sr c' N H v sv as := by
  cases h with
  | d r => exact .d (hK ▸ r)
  | ol h z r => exact .ol h z (hK ▸ r)
  | od h r => exact .od h (hK ▸ r)
  | oi _ _ _ => cases hs
  | xo _ _ _ _ _ => cases hx
/-- caught exceptions are forgotten -/
theorem ER.unx {e : Env} {a : Nat → List Addr} {σ : L2.St} {H : Hp} (h : ER c N0 ⟨e, a, σ, H⟩) (hK : c.K = c'.K) (hT : c.tt = c'.tt) (hs : e.all SV.simp = true) : ER c' N0 ⟨e.map unx1, a, σ, H⟩ := by
  have get : ∀ {i : Nat} {sv : SV}, (e.map unx1)[i]? = some sv → ∃ su, e[i]? = some su ∧ sv = unx1 su := fun {i sv} q => by
    rw [List.getElem?_map] at q
    cases hq : e[i]? with
    | none => rw [hq] at q; cases q
    | some su => rw [hq] at q; cases q; exact ⟨su, rfl, rfl⟩
  refine ⟨by show σ.length = (e.map unx1).length; rw [List.length_map]; exact h.len, fun i sv q => ?_, fun i q => ?_, h.nd, h.dj, h.n0, h.tr, hT ▸ h.tb⟩
  · obtain ⟨su, q1, rfl⟩ := get q
    rcases h.slot i su q1 with z | ⟨v, e1, s1⟩
    · subst z; exact .inl rfl
    · have hsi : su.simp = true := List.all_eq_true.mp hs su (List.mem_of_getElem? q1)
      cases hx : isX su with
      | true =>
        cases su with
        | xo _ _ => exact .inl rfl
        | _ => cases hx
      | false =>
        refine .inr ⟨v, e1, ?_⟩
        have : unx1 su = su := by cases su <;> first | rfl | cases hx
        rw [this]
        exact s1.unx hK hsi hx
  · have q : (e.map unx1)[i]? = none ∨ (e.map unx1)[i]? = some .unset := q
    rcases q with q | q
    · refine h.zero i (.inl ?_)
      rw [List.getElem?_map] at q
      cases hq : e[i]? with
      | none => rfl
      | some su => rw [hq] at q; cases q
    · obtain ⟨su, q1, e1⟩ := get q
      cases su with
      | unset => exact h.zero i (.inr q1)
      | xo cn fs =>
        rcases h.slot i _ q1 with z | ⟨v, e2, s1⟩
        · cases z
        · have s1 : Sr c (NN N0 a) H v (.xo cn fs) (a i) := s1
          exact Sr.nown s1 rfl
      | _ => cases e1
/-- the heap grows, tables too -/
theorem ER.growN {e : Env} {a : Nat → List Addr} {σ : L2.St} {H H' : Hp} (h : ER c N0 ⟨e, a, σ, H⟩) (hx : ∀ b o, H b = some o → NT o → H' b = some o) (tb : ∀ p ∈ c.tt, TabS H' p.1 p.2) : ER c N0 ⟨e, a, σ, H'⟩ := by
  refine ⟨h.len, fun i sv q => ?_, h.zero, h.nd, h.dj, h.n0, fun p z => let ⟨o, e1, t⟩ := h.tr p z; ⟨o, hx p o e1 t, t⟩, tb⟩
  rcases h.slot i sv q with z | ⟨v, e1, s1⟩
  · exact .inl z
  · exact .inr ⟨v, e1, s1.move (O := fun _ => False) (fun b o e _ t => hx b o e t) (fun _ m => m.elim) (fun q hq => .inl hq) fun _ _ m => m⟩
end
/-! ### isinstance and fields of the caught exception -/
def rIsX (K : PySem.W.Frag) (D a dd : Addr) : List V → Hp → VK → Prop := fun xs H Q => ∃ (c : V) (cv : Value) (b : Bool), xs = [.ref a, c] ∧ (∀ u, RelV c u → u = cv) ∧ PySem.W.kitOne K (.ref D) cv = some b ∧ (∃ fs, H dd = some (.xd fs)) ∧ Q (.bl b) H
theorem call_isX {X : Cx} {a D dd : Addr} {oe : Obj} {pn : List (Addr × Obj)} (C : ExcC X.K D) (hz : Zc (.ref D) (some dd) oe) (hf : ∃ vs, oe.data = .fields vs) : CallR (X.suite a ((a, oe) :: pn)) (.builtin "isinstance") (rIsX X.K D a dd) := by
  intro pins s σ H xs us Q I r h
  obtain ⟨c, cv, b, rfl, hcv, e, ⟨fs, hdd⟩, q⟩ := h
  obtain ⟨u1, u2, rfl, r1, r2⟩ := vals2 r
  obtain rfl : u1 = Value.ref a := r1
  have ec := hcv _ r2
  subst ec
  obtain ⟨hget, _⟩ := I.pin (a, oe) (List.mem_append.mpr (.inl List.mem_cons_self))
  obtain ⟨vs, hv⟩ := hf
  have hx : ObjOk X.prog X.w H s.heap dd (.xd fs) := I.hok dd _ hdd
  obtain ⟨mA, hns, hr⟩ := hx
  obtain ⟨od, ho, hl⟩ := lookIn_ns hns
  have J : PySem.W.InstAt s.heap a oe D (some od) := ⟨hget, hz.1, by unfold PySem.W.notCls; rw [hv] <;> rfl, by rw [hz.2]; exact ho⟩
  have hcl : (PySem.W.clsIn X.K D).isSome = true := by
    obtain ⟨cdD, hcD, _⟩ := PySem.W.any_some C.hd
    rw [hcD]; rfl
  exact PySem.W.kia_one (PySem.W.kitx_exc hcl C.hg C.hk C.hs C.ha C.hn C.ht C.hm) I.kIn J e (fun z => nomatch z) fun tk => ⟨.bl b, H, I.kept (t' := tk) fun _ _ z => z, rfl, q⟩

section
variable {X : Cx} {c : Cfg} {W : WX} {e : Expr} {pos : Pos} {a Dc dd : Addr} {oe : Obj} {pn : List (Addr × Obj)}
theorem ER.get_xo {N0 : Addr → Prop} {S : Sx} {i : Nat} {cn : Str} {fs : List (Str × D)} (h : ER c N0 S) (e : S.e[i]? = some (.xo cn fs)) : ∃ p d C fvs, S.s[i]? = some (some (.ref p)) ∧ c.xp p d C ∧ c.CT cn = some C ∧ S.h d = some (.xd fvs) ∧ Fr c.K (NN N0 S.a) S.h fvs fs := by
  rcases h.slot i _ e with z | ⟨v, e1, r⟩
  · cases z
  · generalize ha : S.a i = as at r
    cases r with
    | xo h1 h2 h3 h4 h5 => exact ⟨_, _, _, _, e1, h1, h2, h3, h5⟩
/-- isinstance(e, C) -/
def eIsX (i : Nat) (f : Str → Option Bool) : Md D := fun e => match e[i]? with
  | some (.xo cn _) => match f cn with
    | some b => .ok (.bool b) e
    | none => .stuck
  | _ => .stuck
theorem de_isX (i : Nat) {f : Str → Option Bool} {nm x : Str} {p p1 : Pos} {v : V} {u : Value} (hxp : ∀ p d k, c.xp p d k → p = a ∧ d = dd ∧ k = Dc) (C : ExcC X.K Dc) (hz : Zc (.ref Dc) (some dd) oe) (hf : ∃ vs, oe.data = .fields vs) (hN : X.N[i]? = some x) (hv : Vis X.env.scope x)
    (hg : Gl (X.suite a ((a, oe) :: pn)) nm) (hm : X.mg nm = none) (hb : bootBuiltins nm = some (.builtin "isinstance")) (he : PE (X.suite a ((a, oe) :: pn)) e (tC v)) (hrel : ∀ w, RelV v w → w = u) (hT : ∀ cn b, c.CT cn = some Dc → f cn = some b → PySem.W.kitOne X.K (.ref Dc) u = some b)
    (hd : (x == ("__debug__" : Str)) = false := by decide +kernel) (hcd : (x == ("__classdict__" : Str)) = false := by decide +kernel) (hn : nm ≠ "__name__" := by decide +kernel) (hdb : (nm == ("__debug__" : Str)) = false := by decide +kernel)
    (hs1 : starEach [.Name x p1, e] X.env = (false, eval (.Name x p1) X.env) :: starEach [e] X.env := by rfl) (hs2 : starEach [e] X.env = (false, eval e X.env) :: starEach [] X.env := by rfl) (hpl : (backTo pos (starEach [e] X.env)).any (·.1) = false := by rfl) :
    PE (X.suite a ((a, oe) :: pn)) (.Call (.Name nm p) [.Name x p1, e] [] pos) (tD c W (eIsX i f)) := by
  refine PE.imp (pe_callB (call_isX (dd := dd) C hz hf) hg hm hb (pa_cons (pe_var (i := i) hN hv hd hcd) (pa_cons he pa_nil hs2) hs1) hn hdb hs1 hpl) fun σ H Q h => ?_
  obtain ⟨N0, e0, a0, er, h⟩ := h
  unfold eIsX at h
  revert h
  cases h1 : e0[i]? with
  | none => exact fun h => h.elim
  | some sv =>
    cases sv with
    | xo cn fs =>
      obtain ⟨p', d', C', fvs, hσ, hx, hC, hd', _⟩ := er.get_xo h1
      obtain ⟨rfl, rfl, rfl⟩ := hxp _ _ _ hx
      cases hff : f cn with
      | none => intro h; simp only [hff] at h; exact h.elim
      | some b =>
        intro h
        simp only [hff] at h
        exact ⟨.ref p', hσ, v, u, b, rfl, hrel, hT cn b hC hff, ⟨fvs, hd'⟩, h a0 H er (Stp.refl _) _ (.bl b)⟩
    | _ => exact fun h => h.elim
/-- e.f -/
def eXf (i : Nat) (f : Str) : Md D := fun e => match e[i]? with
  | some (.xo _ fs) => match fs.lookup f with
    | some x => .ok x e
    | none => .stuck
  | _ => .stuck
theorem de_xf (i : Nat) {f x : Str} {p1 : Pos} (hxp : ∀ p d k, c.xp p d k → p = a ∧ d = dd ∧ k = Dc) (hK : c.K = X.K) (T : XfC X.K Dc) (hno : PySem.W.findIn X.K (.ref Dc) f = some none) (hz : Zc (.ref Dc) (some dd) oe) (hf : ∃ vs, oe.data = .fields vs) (hN : X.N[i]? = some x) (hv : Vis X.env.scope x)
    (hd : (x == ("__debug__" : Str)) = false := by decide +kernel) (hcd : (x == ("__classdict__" : Str)) = false := by decide +kernel) (hb : attributeBase (.Name x p1) f X.env (eval (.Name x p1) X.env) = eval (.Name x p1) X.env := by rfl) :
    PE (X.suite a ((a, oe) :: pn)) (.Attribute (.Name x p1) f pos) (tD c W (eXf i f)) := by
  refine PE.imp (pe_xf T hno hz hf (pe_var (i := i) hN hv hd hcd) hb) fun σ H Q h => ?_
  obtain ⟨N0, e0, a0, er, h⟩ := h
  unfold eXf at h
  revert h
  cases h1 : e0[i]? with
  | none => exact fun h => h.elim
  | some sv =>
    cases sv with
    | xo cn fs =>
      obtain ⟨p', d', C', fvs, hσ, hx, hC, hd', hfr⟩ := er.get_xo h1
      obtain ⟨rfl, rfl, rfl⟩ := hxp _ _ _ hx
      cases hff : fs.lookup f with
      | none => intro h; simp only [hff] at h; exact h.elim
      | some y =>
        intro h
        simp only [hff] at h
        obtain ⟨v, hv', rv⟩ := hfr f y hff
        exact ⟨.ref p', hσ, rfl, rfl, d', fvs, v, rfl, hd', hv', h a0 H er (Stp.refl _) v rv⟩
    | _ => exact fun h => h.elim
end

/-! ### try: .. except C as n: suite, the suite returns -/
def sTryX (i : Nat) (sub : Str → Option Bool) (B G : Sm) : Sm := fun e => match B e with
  | .err cn fs e1 => match sub cn with
    | some true => match G (e1.set i (.xo cn fs)) with
      | .rt v e2 => if e2.all SV.simp = true ∧ v.simp = true ∧ isX v = false then .rt v (e2.map unx1) else .stuck
      | _ => .stuck
    | some false => .err cn fs e1
    | none => .stuck
  | r => r
/-- what a config says in the suite -/
abbrev Cfg.at (c : Cfg) (a dd C : Addr) : Cfg := { c with xp := fun p d k => p = a ∧ d = dd ∧ k = C }
theorem ds_tryX {X : Cx} {c : Cfg} {W : WX} {x n : Str} {cv : Value} {i : Nat} {body suite : List Stmt} {b₀ : Stmt} {np pos pos' : Pos} {B G : Sm} {sub : Str → Option Bool} (hX : ∀ p d k, ¬ c.xp p d k) (hs : X.stack = X.env :: X.outer) (hf : X.env.frame = some X.env.locals) (hN : X.N.Nodup) (hi : X.N[i]? = some n) (hln : X.env.kindOf n = some .local) (hc : Names X x cv) (tk : Takes X W)
    (hb : ∀ (W' : WX) (pn : List (Addr × Obj)) (xe : Value → Shared → Prop), Takes (X.tr pn xe) W' → PassesOwn (model X.prog X.w) X.A X.env xe → PSs (X.tr pn xe) body (tS c W' B))
    (hsu : ∀ (a : Addr) (oe : Obj) (C dd : Addr) (pn : List (Addr × Obj)) (cn : Str), c.CT cn = some C → sub cn = some true → Zc (.ref C) (some dd) oe → (∃ vs, oe.data = .fields vs) → PSs (X.suite a ((a, oe) :: pn)) (b₀ :: suite) (tS (c.at a dd C) WF G))
    (hsub : ∀ cn C b, c.CT cn = some C → sub cn = some b → PySem.W.exmOne X.K (.ref C) cv = some b) :
    PS X (.Try body [.ExceptHandler (some (.Name x np)) (some n) (b₀ :: suite) pos'] [] [] pos) (tS c W (sTryX i sub B G)) := by
  refine PS.imp (ps_try_as (ts := fun a cls d D σ H => ∃ C dd cn, cls = .ref C ∧ d = some dd ∧ c.CT cn = some C ∧ sub cn = some true ∧ tS (c.at a dd C) WF G D σ H) hs hf hN hi hln hc tk (tb := fun W' => tS c W' B) hb (fun a oe cls d pn hz hfl => ?_)) fun D' σ H h => ?_
  · refine ⟨fun pins s σ H D I h => ?_⟩
    obtain ⟨C, dd, cn, rfl, rfl, hC, hS, h⟩ := h
    exact (hsu a oe C dd pn cn hC hS hz hfl).run pins s σ H D I h
  · obtain ⟨N0, e0, a0, er, h⟩ := h
    refine ⟨N0, e0, a0, er, ?_⟩
    unfold sTryX at h
    revert h
    cases B e0 with
    | nx e1 => exact fun h => h
    | rt v e1 => exact fun h => h
    | bk e1 => exact fun h => h
    | ct e1 => exact fun h => h
    | stuck => exact fun h => h
    | err cn fs e1 =>
      intro h a1 s1 H1 C dd fvs er1 st1 hC hd hF hnn
      cases hsb : sub cn with
      | none => simp only [hsb] at h; exact h.elim
      | some b =>
        simp only [hsb] at h
        refine ⟨b, hsub cn C b hC hsb, fun hbt p hp => ?_, fun hbf => ?_⟩
        · subst hbt
          simp only at h
          refine ⟨C, dd, cn, rfl, rfl, hC, hsb, ?_⟩
          have er2 : ER (c.at p dd C) N0 ⟨e1, a1, s1, H1⟩ := er1.xp rfl rfl rfl fun p d k z => (hX p d k z).elim
          have nn : ∀ q, NN N0 (fup a1 i []) q → NN N0 a1 q := fun q hq => hq.elim .inl fun ⟨j, z⟩ => .inr ⟨j, (fup_nil z).1⟩
          have q := er2.set_s (j := i) (v := .ref p) (su := .xo cn fs) (.xo ⟨rfl, rfl, rfl⟩ hC hd (fun z => hnn (nn _ z)) (hF.mono nn)) rfl
          refine ⟨N0, _, _, q.1, ?_⟩
          revert h
          cases G (e1.set i (.xo cn fs)) with
          | rt v e2 =>
            intro h a2 s2 H2 u er3 st3 hle
            obtain ⟨⟨h1, h2, h3⟩, h⟩ := h.ite
            have hall : (e2 ++ [v]).all SV.simp = true := by rw [List.all_append, h1]; simp [h2]
            have er4 : ER c N0 ⟨(e2 ++ [v]).map unx1, a2, s2 ++ [some u], H2⟩ := er3.unx rfl rfl hall
            have hv : unx1 v = v := by cases v <;> first | rfl | cases h3
            have em : (e2 ++ [v]).map unx1 = e2.map unx1 ++ [v] := by rw [List.map_append, List.map_cons, List.map_nil, hv]
            rw [em] at er4
            have st4 : Stp c ⟨e0, a0, σ, H⟩ ⟨e2 ++ [v], a2, s2 ++ [some u], H2⟩ := (st1.trans (q.2.cfg rfl)).trans (st3.cfg rfl)
            have st5 : Stp c ⟨e0, a0, σ, H⟩ ⟨e2.map unx1 ++ [v], a2, s2 ++ [some u], H2⟩ := by
              refine st4.sub ?_ rfl (fun j p m => ⟨j, m⟩) (fun j sv hj q o => ?_)
              · have := st4.ln
                show e0.length ≤ (e2.map unx1 ++ [v]).length
                simpa using this
              · refine st4.kp j sv hj ?_ o
                have q : (e2.map unx1 ++ [v])[j]? = some sv := q
                rw [← em, List.getElem?_map] at q
                show (e2 ++ [v])[j]? = some sv
                cases hq : (e2 ++ [v])[j]? with
                | none => rw [hq] at q; cases q
                | some su =>
                  rw [hq] at q
                  cases q
                  cases su <;> first | rfl | cases o
            refine h a2 s2 H2 u er4 st5 ?_
            show e0.length ≤ (e2.map unx1).length
            rw [List.length_map]
            have l1 : e0.length ≤ e1.length := st1.ln
            have l2 : (e1.set i (SV.xo cn fs)).length ≤ e2.length := hle
            rw [List.length_set] at l2
            omega
          | nx _ => exact fun h => h.elim
          | bk _ => exact fun h => h.elim
          | ct _ => exact fun h => h.elim
          | err _ _ _ => exact fun h => h.elim
          | stuck => exact fun h => h
        · subst hbf
          simp only at h
          exact h a1 s1 H1 C dd fvs er1 st1 hC hd hF hnn
end VL

set_option Elab.async false
set_option autoImplicit false
set_option linter.all false
set_option maxRecDepth 100000
set_option maxHeartbeats 4000000
/-! VLZ: heard(lambda: ..): what the lambda gives, or what the handler says. -/
namespace VL
open PySem PySem.Spec PyProof.Rows L2 LamX
/-- the handler's answer to an own exception: its suite on fresh slots -/
def hearX (nn i : Nat) (G : Sm) (cn : Str) (fs : List (Str × D)) : Option D := match G ((List.replicate nn SV.unset).set i (.xo cn fs)) with
  | .rt (.d y) _ => some y
  | _ => none
def eHeard (told : Str) (sub : Str → Option Bool) (HX : Str → List (Str × D) → Option D) (F : Md D) : Md D := fun e => match F e with
  | .ok x e1 => .ok (.tuple [.str told, x]) e1
  | .err cn fs e1 => match sub cn, HX cn fs with
    | some true, some y => .ok y e1
    | _, _ => .stuck
  | .stuck => .stuck
/-- what heard makes of the lambda's reading -/
def TTh (K : PySem.W.Frag) (CT : Str → Option Addr) (tt : List (Addr × Str)) (told : Str) (sub : Str → Option Bool) (HX : Str → List (Str × D) → Option D) : (XK → Hp → VK → Prop) → Hp → VK → Prop := fun tl H Q =>
  tl (fun cls d H' => ∃ (C dd : Addr) (cn : Str) (fvs : List (Str × V)) (fs : List (Str × D)) (y : D) (N0 : Addr → Prop), cls = .ref C ∧ d = some dd ∧ CT cn = some C ∧ H' dd = some (.xd fvs) ∧ Fr K N0 H' fvs fs ∧ ¬ N0 dd ∧ (∀ p, N0 p → ∃ o, H' p = some o ∧ NT o) ∧ (∀ p ∈ tt, TabS H' p.1 p.2) ∧ sub cn = some true ∧ HX cn fs = some y ∧
      ∀ u H'', (∀ b o, H' b = some o → NT o → H'' b = some o) → (∀ p ∈ tt, TabS H'' p.1 p.2) → Rp K N0 H'' u y → Q u H'') H
    (fun v H' => [V.str told, v].length ≤ sizeLine ∧ ∀ p, H' p = none → Q (.ref p) (upd H' p (.tup [.str told, v])))
theorem ER.fresh {c : Cfg} {N0 : Addr → Prop} {σ : L2.St} {H : Hp} {n : Nat} (hl : σ.length = n) (tr : ∀ p, N0 p → ∃ o, H p = some o ∧ NT o) (tb : ∀ p ∈ c.tt, TabS H p.1 p.2) : ER c N0 ⟨List.replicate n .unset, fun _ => [], σ, H⟩ := by
  refine ⟨by show σ.length = (List.replicate n SV.unset).length; simpa using hl, fun i sv q => .inl ?_, fun _ _ => rfl, fun _ => List.nodup_nil, (fun i j p m => nomatch m), (fun i p m => nomatch m), tr, tb⟩
  have q : (List.replicate n SV.unset)[i]? = some sv := q
  rw [List.getElem?_replicate] at q
  split at q <;> cases q
  rfl
section
variable {X : Cx}
theorem heard_gives {CT : Str → Option Addr} {tt : List (Addr × Str)} {Ng : List Str} {x a en n q told : Str} {sg : Scope} {g CS : Addr} {cdg : Value} {i j kk : Nat} {p1 p2 p3 p4 p6 p7 p8 pt : Pos} {b₀ : Stmt} {suite : List Stmt} {sub : Str → Option Bool} {Gs : Sm}
    (hge : sg.names.lookup en = some .globalImplicit) (hme : X.mg en = some (.ref CS)) (hde : (en == ("__debug__" : Str)) = false) (hN : Ng.Nodup) (hi : Ng[i]? = some n) (hln : sg.names.lookup n = some .local) (hNl : 1 ≤ Ng.length)
    (hsub : ∀ cn C b, CT cn = some C → sub cn = some b → PySem.W.exmOne X.K (.ref C) (.ref CS) = some b)
    (hsu : ∀ (s : Shared) (H : Hp) (p : Addr) (oe : Obj) (C dd : Addr) (pn : List (Addr × Obj)) (cn : Str), CT cn = some C → sub cn = some true → Zc (.ref C) (some dd) oe → (∃ vs, oe.data = .fields vs) →
      PSs ((cxOf C8.CX0 X.prog X.w X.K X.mg X.base Ng x sg g cdg X.A X.stack s H C8.E0).nox.suite p ((p, oe) :: pn)) (b₀ :: suite) (tS ((cfg X.K CT tt 1).at p dd C) WF Gs)) :
    GivesTo X Ng x sg g cdg [.Try [.Return (some (.Tuple [.Constant (.str told) j p6, .Call (.Name a p1) [] [] p2] kk pt)) p3] [.ExceptHandler (some (.Name en p4)) (some n) (b₀ :: suite) p7] [] [] p8] a q (TTh X.K CT tt told sub (hearX Ng.length i Gs)) := by
  intro f c' s H Q tl act hc h
  have hgl : Gl (cxOf C8.CX0 X.prog X.w X.K X.mg X.base Ng x sg g cdg X.A X.stack s H C8.E0).nox en := hge
  refine ⟨_, pss_one (ps_try_as (X := (cxOf C8.CX0 X.prog X.w X.K X.mg X.base Ng x sg g cdg X.A X.stack s H C8.E0).nox) (c := .ref CS) (i := i)
      (ts := fun p cls d D σ H => σ.length = Ng.length → ∃ C dd cn, cls = .ref C ∧ d = some dd ∧ CT cn = some C ∧ sub cn = some true ∧ tS ((cfg X.K CT tt 1).at p dd C) WF Gs D σ H)
      (tb := fun W D σ H => ∃ Ech : XK, (∀ cls d σ' H', Ech cls d H' → W cls d σ' H') ∧ σ[0]? = some (some (.ref f)) ∧ H c' = some (CodeO c' q) ∧ tl Ech H fun v H' => [V.str told, v].length ≤ sizeLine ∧ ∀ p, H' p = none → D.rt (.ref p) (upd H' p (.tup [.str told, v])))
      rfl rfl hN hi hln ⟨hgl, hde, .inl hme⟩ LamX.takes0 (fun W pn xe tk _ => ?_) (fun p oe cls d pn hz hf => ?_)), ?_⟩
  · refine ⟨fun pins s' σ H' D I h' => ?_⟩
    obtain ⟨Ech, hW, h1, h2, h3⟩ := h'
    have hp := act W pn xe Ech p1 p2 tk hW
    have hq : PSs ((cxOf C8.CX0 X.prog X.w X.K X.mg X.base Ng x sg g cdg X.A X.stack s H C8.E0).tr pn xe) [.Return (some (.Tuple [.Constant (.str told) j p6, .Call (.Name a p1) [] [] p2] kk pt)) p3] _ := pss_one (ps_ret (pos := p3) (pe_tup (pa_cons pe_str (pa_cons hp pa_nil))))
    refine hq.run pins s' σ H' D I ?_
    exact ⟨h1, h2, h3⟩
  · refine ⟨fun pins s' σ H' D I h' => ?_⟩
    have hl : σ.length = Ng.length := I.len
    obtain ⟨C, dd, cn, rfl, rfl, hC, hS, h2⟩ := h' hl
    exact (hsu s H p oe C dd pn cn hC hS hz hf).run pins s' σ H' D I h2
  · refine ⟨_, fun cls d σ' H' hE => ?_, rfl, hc, h⟩
    obtain ⟨C, dd, cn, fvs, fs, y, N0, rfl, rfl, hC, hd, hF, hn, htr, htb, hs1, hx, hk⟩ := hE
    refine ⟨true, hsub cn C true hC hs1, fun _ p hp hl => ⟨C, dd, cn, rfl, rfl, hC, hs1, ?_⟩, fun z => nomatch z⟩
    have hl' : σ'.length = Ng.length := by
      have hl : (σ'.set i (some (V.ref p))).length = Ng.length := hl
      rw [List.length_set] at hl
      exact hl
    have er : ER ((cfg X.K CT tt 1).at p dd C) N0 ⟨List.replicate Ng.length .unset, fun _ => [], σ', H'⟩ := ER.fresh hl' htr htb
    have nn : ∀ q, NN N0 (fup (fun _ => []) i []) q → N0 q := fun q hq => hq.elim id fun ⟨k, z⟩ => nomatch (fup_nil z).1
    have noA : ∀ k b, b ∉ fup (fun _ => []) i ([] : List Addr) k := fun k b m => nomatch (fup_nil m).1
    have q := er.set_s (j := i) (v := .ref p) (su := .xo cn fs) (.xo ⟨rfl, rfl, rfl⟩ hC hd (fun z => hn (nn _ z)) (hF.mono nn)) rfl
    refine ⟨N0, _, _, q.1, ?_⟩
    unfold hearX at hx
    revert hx
    cases Gs ((List.replicate Ng.length SV.unset).set i (.xo cn fs)) with
    | rt v e2 =>
      cases v with
      | d y' =>
        intro hx
        cases hx
        intro a2 s2 H2 u er2 st2 hle
        have hlen : s2.length = e2.length := by
          have z : (s2 ++ [some u]).length = (e2 ++ [SV.d y]).length := er2.len
          simpa using z
        have ru : Rp X.K N0 H2 u y := by
          obtain ⟨w, hw, rw'⟩ := er2.get_d (i := e2.length) (x := y) (by show (e2 ++ [SV.d y])[e2.length]? = _; simp)
          have hw : (s2 ++ [some u])[e2.length]? = some (some w) := hw
          rw [← hlen] at hw
          simp at hw
          subst hw
          exact rw'.mono fun q hq => .inl hq
        exact hk u H2 (fun b o e t => st2.ext b o e (fun ⟨k, m⟩ => noA k b m) t) er2.tb ru
      | _ => exact fun hx => nomatch hx
    | _ => exact fun hx => nomatch hx

/-- x(lambda: body), x being heard -/
theorem de_heard {gb : Bool} {c : Cfg} {W : WX} {x a told : Str} {g cc Pt : Addr} {k : Nat} {pg : Arguments} {bg : List Stmt} {sg : Scope} {dV kV doc pm cdv ct oc : Value} {an od : Option Addr} {osl : Array (Option Value)} {Ng : List Str}
    {params : Arguments} {body : Expr} {scope : Scope} {F : Md D} {sub : Str → Option Bool} {HX : Str → List (Str × D) → Option D} {p lpos pos : Pos} (hK : c.K = X.K) (hg : Gl X x) (hm : X.mg x = some (.ref g)) (hk : PySem.W.keepIn X.K (.ref g) = true)
    (lk : X.K.lookup g = some ⟨oc, od, .func (PySem.W.fnOf x x pg bg sg dV kV doc pm an cdv ct), osl⟩) (hcg : PySem.W.codeIn X.K cdv x = true) (hb : L2.Binds X.K (PySem.W.fnOf x x pg bg sg dV kV doc pm an cdv ct) [a] []) (Sg : FnScope Ng [a] sg) (hNg : Ng[0]? = some a) (hva : Vis sg a)
    (hG : GivesTo X Ng x sg g cdv bg a (X.env.qual ++ "<lambda>") (TTh X.K c.CT c.tt told sub HX))
    (TB : LamX.TabB X.base X.mg cc Pt) (hcode : X.env.code = .ref cc) (hmT : (Pt, X.env.qual ++ "<lambda>") ∈ c.tt) (hu : ∀ p ∈ c.tt, p.1 = Pt → p.2 = X.env.qual ++ "<lambda>") (hr : Rm gb (k + 2) X.A) (L : LamS X.env.scope scope) (hdef : defaultsOf params X.env = ([], []))
    (hbind : ∀ (q : Str) (cl : List (Str × Addr)) (pm cv ctv : Value), bindArgs (PySem.W.kla_fn "<lambda>" q params body scope cl pm cv ctv) ⟨[], []⟩ = pure [])
    (hbody : ∀ (A : Around) (outer : List PySem.Env) (s : Shared) (H : Hp) (E : XK) (f c' : Addr), Rm false k (A.deeper (lamEnv X scope s.heap.objs.size f c')) → PE (lamCx X A outer s H E scope f c') body (tD c (WE E) F))
    (hdb : (x == ("__debug__" : Str)) = false := by decide +kernel) (hd : (a == ("__debug__" : Str)) = false := by decide +kernel) (hcd : (a == ("__classdict__" : Str)) = false := by decide +kernel) :
    PE X (.Call (.Name x p) [.Lambda params body scope lpos] [] pos) (tD c W (eHeard told sub HX F)) := by
  refine PE.imp (pe_lamcall (T := c.tt) (t := fun E => tD c (WE E) F) hg hm hk lk hcg hb Sg hNg hva hG TB hcode hmT hu hr.r L hdef hbind (fun A outer s H E f c' h => hbody A outer s H E f c' ⟨h, fun z => nomatch z⟩) hdb hd hcd) fun σ H Q h => ?_
  obtain ⟨N0, e0, a0, er, h⟩ := h
  refine ⟨er.tb, fun H1 eN T1 => ?_⟩
  have er1 : ER c N0 ⟨e0, a0, σ, H1⟩ := er.growN (fun b o e t => eN b o e t) T1
  have st1 : Stp c ⟨e0, a0, σ, H⟩ ⟨e0, a0, σ, H1⟩ := ⟨Nat.le_refl _, fun b o e _ t => eN b o e t, fun i p m => .inl ⟨i, m⟩, fun i sv _ q o => ⟨rfl, sv, q, o⟩⟩
  refine ⟨N0, e0, a0, er1, ?_⟩
  unfold eHeard at h
  revert h
  cases F e0 with
  | stuck => exact fun h => h
  | ok x1 e1 =>
    intro h a2 H2 er2 st2 v rv
    refine ⟨by show 2 ≤ sizeLine; rw [sizeLine_eq]; omega, fun p hp => ?_⟩
    have sm : Same H2 (upd H2 p (.tup [.str told, v])) := same_upd hp
    exact h a2 _ (er2.grow (S := ⟨e1, a2, σ, H2⟩) sm) ((st1.trans st2).trans (Stp.grow (S := ⟨e1, a2, σ, H2⟩) sm)) (.ref p)
      (Rps.newT (.cons (.str told) (.cons rv .nil)) hp (by show 2 ≤ sizeLine; rw [sizeLine_eq]; omega) er2.all_tr)
  | err cn fs e1 =>
    intro h a2 H2 C dd fvs er2 st2 hC hd2 hF hnn
    cases hs : sub cn with
    | none => simp only [hs] at h; exact h.elim
    | some b =>
      cases b with
      | false => simp only [hs] at h; exact h.elim
      | true =>
        cases hx : HX cn fs with
        | none => simp only [hs, hx] at h; exact h.elim
        | some y =>
          simp only [hs, hx] at h
          have hF' : Fr X.K (NN N0 a2) H2 fvs fs := hK ▸ hF
          refine ⟨C, dd, cn, fvs, fs, y, NN N0 a2, rfl, rfl, hC, hd2, hF', hnn, fun p hp => ?_, er2.tb, hs, hx, fun u H3 hx3 tb3 ru => ?_⟩
          · rcases hp with hp | ⟨i, m⟩
            · exact er2.tr p hp
            · obtain ⟨o, e, t, _⟩ := er2.kind m
              exact ⟨o, e, t⟩
          · have er3 : ER c N0 ⟨e1, a2, σ, H3⟩ := er2.growN hx3 tb3
            have st3 : Stp c ⟨e1, a2, σ, H2⟩ ⟨e1, a2, σ, H3⟩ := ⟨Nat.le_refl _, fun b o e _ t => hx3 b o e t, fun i p m => .inl ⟨i, m⟩, fun i sv _ q o => ⟨rfl, sv, q, o⟩⟩
            have ru' : Rp c.K (NN N0 a2) H3 u y := hK ▸ ru
            exact h a2 H3 er3 ((st1.trans st2).trans st3) u ru'
end
end VL

set_option Elab.async false
set_option autoImplicit false
set_option linter.all false
set_option maxRecDepth 100000
set_option maxHeartbeats 4000000
/-! VLK: calls with keywords (plain data; the keywords stand in the parameters' order behind the positional arguments). -/
namespace VL
open PySem PySem.Spec PyProof.Rows L2
theorem PK.imp {X : Cx} {e : List Keyword} {t t' : TA} (h : PK X e t) (i : ∀ σ H Q, t' σ H Q → t σ H Q) : PK X e t' := ⟨fun pos pins s σ H Q I q => h.run pos pins s σ H Q I (i σ H Q q)⟩
def oCallK (n : Nat) (f : Md SV) (dds : List D) (FL FK : Md (List D)) : Md SV := bnd FL fun xs => bnd FK fun zs e1 => if xs.length + zs.length + dds.length = n then match f ((xs ++ zs ++ dds).map SV.d) with
  | .ok r _ => .ok r e1
  | .err c fs _ => .err c fs e1
  | .stuck => .stuck else .stuck
section
variable {gb : Bool} {X : Cx} {c : Cfg} {W : WX} {e : Expr} {es : List Expr} {kws : List Keyword} {pos kpos p : Pos} {nm : Option Str} {F : Md D} {FL FK : Md (List D)}
theorem dk_nil : PK X [] (tL c W aNil) := by
  refine PK.imp pk_nil fun σ H Q h => ?_
  obtain ⟨N0, e, a, er, h⟩ := h
  exact h a H er (Stp.refl _) [] .nil
theorem dk_cons (ha : PE X e (tD c W F)) (hl : PK X kws (tL c W FK)) : PK X (⟨nm, e, kpos⟩ :: kws) (tL c W (aCons F FK)) := by
  refine PK.imp (pk_cons ha hl) fun σ H Q h => ?_
  obtain ⟨N0, e0, a, er, h⟩ := h
  refine bindD er h fun x e1 a1 H1 v er1 st1 rx h => ?_
  refine bindL er1 h fun xs e2 a2 H2 vs er2 st2 rxs h => ?_
  exact h a2 H2 er2 (Stp.refl _) (v :: vs) (.cons (rx.step st2) rxs)
theorem callK_run {k n : Nat} {g : Addr} {fd : FuncData} {ps ks : List Str} {ds : List Value} {dvs : List V} {dds : List D} {f : Md SV} (hX : ∀ p d k, ¬ c.xp p d k) (hK : c.K = X.K) (Fo : FnV X.prog X.w X.K X.mg X.base (L2.CX X.prog X.w) gb k g fd ps (spV X.K c.CT c.tt n f)) (hr : Rm gb k X.A) (tk : Takes X W)
    (hb : KBinds X.K fd ps ks (fun us ws => us ++ ws ++ ds) (fun vs zs => vs ++ zs ++ dvs)) (rd : ∀ N H, Rps X.K N H dvs dds) {pins : List (Addr × Obj)} {σ : L2.St} {H1 : Hp} {s : Shared} {Q : VK} {us ws : List Value} {vs zs : List V} {N0 : Addr → Prop} {e1 : Env} {a1 : Nat → List Addr} {xs ys : List D}
    (I : Inv X pins σ H1 s) (r : Vals vs us) (rz : Vals zs ws) (er : ER c N0 ⟨e1, a1, σ, H1⟩) (rx : Rps c.K (NN N0 a1) H1 vs xs) (ry : Rps c.K (NN N0 a1) H1 zs ys)
    (h : PostO c W N0 ⟨e1, a1, σ, H1⟩ (if xs.length + ys.length + dds.length = n then match f ((xs ++ ys ++ dds).map SV.d) with
      | .ok r _ => .ok r e1
      | .err c fs _ => .err c fs e1
      | .stuck => .stuck else .stuck) Q) : wpAny (model X.prog X.w) X.A (call (.ref g) us (ks.zip ws)) (EP X pins σ Q) X.xe s := by
  obtain ⟨hn, h⟩ := h.ite
  have r2 := hb.rel r rz
  have rxy := Rps.append rx ry
  have hsp : spV X.K c.CT c.tt n f ((vs ++ zs) ++ dvs) H1 Q (L2.WE W σ) := by
    refine call_sp (as := (xs ++ ys).map AV.vl) hX hK rfl rfl (by rw [List.length_map, List.length_append]; omega) er (avrs_vl (S := ⟨e1, a1, σ, H1⟩) rxy) rd (lnOk_vl _) ?_
    rw [map_vl, ← List.map_append]
    revert h
    cases f ((xs ++ ys ++ dds).map SV.d) with
    | stuck => exact fun h => h
    | ok q svs =>
      intro h a' H' v er' st'
      rw [wb_vl] at er' st'
      exact h a' H' v er' st'
    | err cn fs svs =>
      intro h a' H' C dd fvs er' st' hC hd hF hnn
      rw [wb_vl] at er' st'
      rw [← hK] at hF
      exact h a' H' C dd fvs er' st' hC hd hF hnn
  have hl : (us ++ ws ++ ds).length = ps.length := by rw [← r2.length]; exact Fo.len _ _ _ _ hsp
  refine wpAny_call (codeAny_mono (Fo.run X.A X.stack s H1 ⟨us, ks.zip ws⟩ _ _ Q (L2.WE W σ) hr I.env0 (hb.to s us ws I.kIn hl) r2 hsp) fun r s' hq => ?_)
  cases r with
  | error e => exact passAt tk σ pins H1 s e s' I hq
  | ok fl =>
    cases fl with
    | ret u => exact I.after hq
    | next => exact False.elim hq
    | brk => exact False.elim hq
    | cont => exact False.elim hq
/-- f(k = v, ..) -/
theorem do_callK0 {x : Str} {k n : Nat} {g : Addr} {fd : FuncData} {ps ks : List Str} {ds : List Value} {dvs : List V} {dds : List D} {f : Md SV} (hX : ∀ p d k, ¬ c.xp p d k) (hK : c.K = X.K) (Fo : FnV X.prog X.w X.K X.mg X.base (L2.CX X.prog X.w) gb k g fd ps (spV X.K c.CT c.tt n f)) (hr : Rm gb k X.A) (tk : Takes X W) (hg : Gl X x) (hm : X.mg x = some (.ref g)) (hk : PySem.W.keepIn X.K (.ref g) = true)
    (hb : KBinds X.K fd ps ks (fun us ws => us ++ ws ++ ds) (fun vs zs => vs ++ zs ++ dvs)) (rd : ∀ N H, Rps X.K N H dvs dds) (hkw : PK X kws (tL c W FK)) (hall : (backToKw pos (keywordEach kws X.env)).all (·.1.isSome) = true := by rfl) (hks : (backToKw pos (keywordEach kws X.env)).filterMap (·.1) = ks := by rfl)
    (hdb : (x == ("__debug__" : Str)) = false := by decide +kernel) (hpl : ((backTo pos (starEach [] X.env)).any (·.1) || (backToKw pos (keywordEach kws X.env)).any (·.1.isNone)) = false := by rfl) :
    PE X (.Call (.Name x p) [] kws pos) (tO c W (oCallK n f dds aNil FK)) := by
  refine ⟨fun pins s σ H Q I h => ?_⟩
  obtain ⟨N0, e0, a0, er, h⟩ := h
  refine wpAny_Call_Name_kw (ld_glob I hg hm ?_ hdb)
  refine PySem.W.callWith_KW0 (h₀ := X.base) I.ok.mod.kin hk hall ?_ hpl
  refine thn (hkw.run pos pins s σ H (fun zs H1 => ∃ e1 a1 ys, ER c N0 ⟨e1, a1, σ, H1⟩ ∧ Rps c.K (NN N0 a1) H1 zs ys ∧ PostO c W N0 ⟨e1, a1, σ, H1⟩ (if ([] : List D).length + ys.length + dds.length = n then match f (([] ++ ys ++ dds).map SV.d) with
      | .ok r _ => .ok r e1
      | .err c fs _ => .err c fs e1
      | .stuck => .stuck else .stuck) Q) I ?_) fun ws s2 ⟨zs, H2, I2, rz, q2⟩ => ⟨I2.kIn, ?_⟩
  · unfold oCallK at h
    exact obindL (F := FK) er (show PostO c W N0 ⟨e0, a0, σ, H⟩ (bnd FK _ e0) Q from h) fun ys e1 a1 H1 zs er1 st1 ry h => ⟨e1, a1, ys, er1, ry, h⟩
  · obtain ⟨e1, a1, ys, er1, ry, h⟩ := q2
    rw [hks]
    exact callK_run (us := []) (vs := []) (xs := []) hX hK Fo hr tk hb rd I2 .nil rz er1 .nil ry h
/-- f(e, .., k = v, ..) -/
theorem do_callK {x : Str} {k n : Nat} {g : Addr} {fd : FuncData} {ps ks : List Str} {ds : List Value} {dvs : List V} {dds : List D} {f : Md SV} (hX : ∀ p d k, ¬ c.xp p d k) (hK : c.K = X.K) (Fo : FnV X.prog X.w X.K X.mg X.base (L2.CX X.prog X.w) gb k g fd ps (spV X.K c.CT c.tt n f)) (hr : Rm gb k X.A) (tk : Takes X W) (hg : Gl X x) (hm : X.mg x = some (.ref g)) (hk : PySem.W.keepIn X.K (.ref g) = true)
    (hb : KBinds X.K fd ps ks (fun us ws => us ++ ws ++ ds) (fun vs zs => vs ++ zs ++ dvs)) (rd : ∀ N H, Rps X.K N H dvs dds) (ha : PA X (e :: es) (tL c W FL)) (hkw : PK X kws (tL c W FK)) (hall : (backToKw pos (keywordEach kws X.env)).all (·.1.isSome) = true := by rfl) (hks : (backToKw pos (keywordEach kws X.env)).filterMap (·.1) = ks := by rfl)
    (hdb : (x == ("__debug__" : Str)) = false := by decide +kernel) (he : starEach (e :: es) X.env = (false, eval e X.env) :: starEach es X.env := by rfl)
    (hpl : ((backTo pos (starEach (e :: es) X.env)).any (·.1) || (backToKw pos (keywordEach kws X.env)).any (·.1.isNone)) = false := by rfl) :
    PE X (.Call (.Name x p) (e :: es) kws pos) (tO c W (oCallK n f dds FL FK)) := by
  refine ⟨fun pins s σ H Q I h => ?_⟩
  obtain ⟨N0, e0, a0, er, h⟩ := h
  refine wpAny_Call_Name_kw (ld_glob I hg hm ?_ hdb)
  refine PySem.W.callWith_KW (h₀ := X.base) I.ok.mod.kin hk hall (thn (ha.run pos pins s σ H (fun vs H1 => ∃ e1 a1 xs, ER c N0 ⟨e1, a1, σ, H1⟩ ∧ Rps c.K (NN N0 a1) H1 vs xs ∧ PostO c W N0 ⟨e1, a1, σ, H1⟩ (bnd FK (fun zs e1 => if xs.length + zs.length + dds.length = n then match f ((xs ++ zs ++ dds).map SV.d) with
      | .ok r _ => .ok r e1
      | .err c fs _ => .err c fs e1
      | .stuck => .stuck else .stuck) e1) Q) I ?_) fun us s1 ⟨vs, H1, I1, r, q⟩ => ?_) hpl he
  · unfold oCallK at h
    exact obindL er h fun xs e1 a1 H1 vs er1 st1 rx h => ⟨e1, a1, xs, er1, rx, h⟩
  · obtain ⟨e1, a1, xs, er1, rx, h⟩ := q
    refine thn (hkw.run pos pins s1 σ H1 (fun zs H2 => ∃ e2 a2 ys, ER c N0 ⟨e2, a2, σ, H2⟩ ∧ Rps c.K (NN N0 a2) H2 vs xs ∧ Rps c.K (NN N0 a2) H2 zs ys ∧ PostO c W N0 ⟨e2, a2, σ, H2⟩ (if xs.length + ys.length + dds.length = n then match f ((xs ++ ys ++ dds).map SV.d) with
      | .ok r _ => .ok r e2
      | .err c fs _ => .err c fs e2
      | .stuck => .stuck else .stuck) Q) I1 ?_) fun ws s2 ⟨zs, H2, I2, rz, q2⟩ => ⟨I2.kIn, ?_⟩
    · exact obindL er1 h fun ys e2 a2 H2 zs er2 st2 ry h => ⟨e2, a2, ys, er2, rx.step st2, ry, h⟩
    · obtain ⟨e2, a2, ys, er2, rx2, ry, h⟩ := q2
      rw [hks]
      exact callK_run hX hK Fo hr tk hb rd I2 r rz er2 rx2 ry h
end
end VL

set_option Elab.async false
set_option autoImplicit false
set_option linter.all false
set_option maxRecDepth 100000
set_option maxHeartbeats 4000000
/-! VLT: what the printed walks name. -/
namespace VL
open PySem PySem.Spec PyProof.Rows L2
theorem bt_len : bootBuiltins "len" = some (.builtin "len") := by decide +kernel
theorem bt_all : bootBuiltins "all" = some (.builtin "all") := by decide +kernel
theorem bt_any : bootBuiltins "any" = some (.builtin "any") := by decide +kernel
theorem bt_repr : bootBuiltins "repr" = some (.builtin "repr") := by decide +kernel
theorem bt_isinstance : bootBuiltins "isinstance" = some (.builtin "isinstance") := by decide +kernel
theorem bt_int : bootBuiltins "int" = some (.type "int") := by decide +kernel
theorem bt_str : bootBuiltins "str" = some (.type "str") := by decide +kernel
theorem bt_bool : bootBuiltins "bool" = some (.type "bool") := by decide +kernel
theorem bt_list : bootBuiltins "list" = some (.type "list") := by decide +kernel
theorem bt_tuple : bootBuiltins "tuple" = some (.type "tuple") := by decide +kernel
theorem bt_dict : bootBuiltins "dict" = some (.type "dict") := by decide +kernel
/-- a global that is plain data -/
def GloD (K : PySem.W.Frag) (mg : Str → Option Value) (x : Str) (dx : D) : Prop := ∃ (v : V) (u : Value), mg x = some u ∧ RelV v u ∧ ∀ (N : Addr → Prop) (H : Hp), Rp K N H v dx
theorem de_glo {X : Cx} {c : Cfg} {W : WX} {x : Str} {dx : D} {pos : Pos} (hK : c.K = X.K) (hg : Gl X x) (h : GloD X.K X.mg x dx) (hd : (x == ("__debug__" : Str)) = false := by decide +kernel) : PE X (.Name x pos) (tD c W (eK dx)) := by
  obtain ⟨v, u, h1, h2, h3⟩ := h
  exact de_glob hg h1 h2 (hK ▸ h3) hd
/-- a def that keeps its promise, as its callers want it -/
structure OkD (P : Program) (w : World) (K : PySem.W.Frag) (mg : Str → Option Value) (base : Heap) (gb : Bool) (k : Nat) (CT : Str → Option Addr) (tt : List (Addr × Str)) (g : Addr) (ps : List Str) (n : Nat) (f : Md SV) : Prop where
  ex : ∃ fd, FnV P w K mg base (L2.CX P w) gb k g fd ps (spV K CT tt n f) ∧ Binds K fd ps [] ∧ (n = 1 → KBinds K fd ps ps (fun us ws => us ++ ws ++ []) (fun vs zs => vs ++ zs ++ []))
  kp : PySem.W.keepIn K (.ref g) = true
theorem kb_one {K : PySem.W.Frag} {x qual p : Str} {params : Arguments} {body : List Stmt} {scope : Scope} {kws : List (Str × V)} {f : Addr} {fd : FuncData} (F : FunD K x qual params body scope [] kws f fd)
    (h1 : ∀ (kV doc pm : Value) (an : Option Addr) (cdv ct a : Value), bindArgs (PySem.W.fnOf x qual params body scope .none kV doc pm an cdv ct) ⟨[a], []⟩ = pure [(p, a)])
    (h2 : ∀ (kV doc pm : Value) (an : Option Addr) (cdv ct a : Value), bindArgs (PySem.W.fnOf x qual params body scope .none kV doc pm an cdv ct) ⟨[], [(p, a)]⟩ = pure [(p, a)]) :
    KBinds K fd [p] [p] (fun us ws => us ++ ws ++ []) (fun vs zs => vs ++ zs ++ []) := by
  obtain ⟨oc, od, dV, kV, doc, pm, an, cdv, ct, osl, rfl, lk, hcd, hD, hK⟩ := F.ex
  have hd : dV = .none := by
    rcases hD with ⟨_, h⟩ | ⟨h, _⟩
    · exact h
    · exact absurd rfl h
  subst hd
  refine ⟨fun s us ws X hl => ?_, fun r1 r2 => (r1.append r2).append .nil⟩
  match us, ws, hl with
  | [a], [], _ => exact .of_eq (h1 kV doc pm an cdv ct a)
  | [], [b], _ => exact .of_eq (h2 kV doc pm an cdv ct b)
  | [], [], hl => simp at hl
  | _ :: _ :: _, _, hl => simp at hl
  | [_], _ :: _, hl => simp at hl
  | [], _ :: _ :: _, hl => simp at hl
theorem blk_ok2 {N : List Str} {sc scope : Scope} {own : List (Str × Nat)} (N' : List Str) (sc' : Scope) (hN : N = N') (hs : sc = sc') (h : blkC N' sc' scope own = true) : BlkOk N sc scope own := by
  subst hN hs
  exact blkOk_by h
end VL

set_option Elab.async false
set_option autoImplicit false
set_option linter.all false
set_option maxRecDepth 100000
set_option maxHeartbeats 4000000
/-! VLC: l.count(b) of a list of bools. -/
namespace VL
open PySem PySem.Spec PyProof.Rows L2
theorem bools_eq {k : Bool} : ∀ {bs : List Bool} {us : List Value}, Vals (bs.map V.bl) us → (∀ y ∈ us, ∀ (A : Around) (s : Shared), SeqAt.EqAt A s y (.bool k) (isBoolOf k y)) ∧ us.countP (isBoolOf k) = bs.count k
  | [], us, r => by
    cases r
    exact ⟨fun y hy => (List.not_mem_nil hy).elim, rfl⟩
  | b :: bs, us, r => by
    rw [List.map_cons] at r
    cases r with
    | cons r1 r2 =>
      cases r1
      have ih := bools_eq (k := k) r2
      refine ⟨fun y hy A s => ?_, ?_⟩
      · rcases List.mem_cons.mp hy with e | hy
        · rw [e]; exact SeqAt.EqAt.bool_bool b k
        · exact ih.1 y hy A s
      · rw [List.countP_cons, List.count_cons, ih.2] <;> rfl
def rCntB (K : PySem.W.Frag) : V → List V → Hp → VK → Prop := fun x xs H Q => ∃ (p : Addr) (bs : List Bool) (k : Bool), x = .ref p ∧ xs = [.bl k] ∧ SqL K H p (bs.map V.bl) ∧ Q (.int (bs.count k : Nat)) H
section
variable {X : Cx} {c : Cfg} {W : WX} {o e : Expr} {es : List Expr} {F : Md D} {FL : Md (List D)}
theorem mt_bcount : MtR X "list.count" (rCntB X.K) := by
  intro pins s σ H x xs v us Q I rx rxs h
  obtain ⟨p, bs, k, rfl, rfl, hs, q⟩ := h
  cases rx
  obtain ⟨u, rfl, ru⟩ := rxs.one
  cases ru
  obtain ⟨its, rv, ⟨⟨cls, dd, data, sl⟩, n, ho, hc, hdn, hd⟩, hlen⟩ := I.list hs
  simp only at hc hd
  subst hc hd
  have hi := bools_eq (k := k) rv
  refine call_meets PySem.F.slot_list_count ⟨_, ho, rfl⟩ PySem.F.entry_list_count (PySem.F.args_list_count_2 _ _)
    (SeqAt.list_countAt p its.toArray n dd sl (.bool k) (isBoolOf k)) ⟨ho, fun y hy => hi.1 y (by simpa using hy) _ _, ?_⟩
  have ec : its.toArray.toList.countP (isBoolOf k) = bs.count k := hi.2
  refine ⟨.int (bs.count k : Nat), H, I.tok _, ⟨s.toks, ?_⟩, q⟩
  show Value.int ((its.toArray.toList.countP (isBoolOf k) : Nat) : Int) s.toks = Value.int ((bs.count k : Nat) : Int) s.toks
  rw [ec]
end
def unBls : List D → Option (List Bool)
  | [] => some []
  | .bool b :: r => match unBls r with
    | some bs => some (b :: bs)
    | none => none
  | _ => none
theorem unBls_v {K : PySem.W.Frag} {N : Addr → Prop} {H : Hp} : ∀ {vs : List V} {ds : List D} {bs : List Bool}, Rps K N H vs ds → unBls ds = some bs → vs = bs.map V.bl
  | _, [], bs, r, h => by
    cases r
    cases h
    rfl
  | _, d :: ds, bs, r, h => by
    cases r with
    | cons r1 r2 =>
      cases d with
      | bool b =>
        cases hu : unBls ds with
        | none => simp only [unBls, hu] at h; cases h
        | some bs' =>
          simp only [unBls, hu] at h
          cases h
          cases r1
          rw [unBls_v r2 hu]
          rfl
      | _ => cases h
/-- a plain list's count of a bool -/
def dCount : D → List D → Option D
  | .list ds, [.bool k] => match unBls ds with
    | some bs => some (.int (bs.count k : Nat))
    | none => none
  | _, _ => none
/-- an own list's -/
def wCount : List D → List D → Option (D × List D)
  | ds, [.bool k] => match unBls ds with
    | some bs => some (.int (bs.count k : Nat), ds)
    | none => none
  | _, _ => none
theorem w_count {K : PySem.W.Frag} : OpW K wCount (rCntB K) := by
  intro N H l ws xs ds as z ds' Q hn hl hz rw' rx hf k
  unfold wCount at hf
  split at hf
  · split at hf
    · rename_i bs hu
      cases hf
      obtain ⟨x, rfl, r⟩ := rx.one
      cases r
      have ev := unBls_v rw' hu
      have hk := k (.int (bs.count _ : Nat)) ws hz rw' (.int _)
      have eq1 : upd H l (.lst ws) = H := by
        funext q
        by_cases hq : q = l
        · rw [hq, upd_same, hl]
        · rw [upd_ne hq]
      rw [eq1] at hk
      exact ⟨l, bs, _, rfl, rfl, .inl (.inl (ev ▸ hl)), hk⟩
    · cases hf
  · cases hf
theorem m_count {K : PySem.W.Frag} : OpM K dCount (rCntB K) := by
  intro N H x dx xs ds dz Q hN rx rs hz k
  unfold dCount at hz
  split at hz
  · split at hz
    · rename_i bs hu
      cases hz
      obtain ⟨p, vs, rfl, hs, hl, r1⟩ := rx.list
      obtain ⟨y, rfl, r⟩ := rs.one
      cases r
      exact ⟨p, bs, _, rfl, rfl, unBls_v r1 hu ▸ hs, k _ H same_rfl (.int _)⟩
    · cases hz
  · cases hz
def isLst : D → Bool
  | .list _ => true
  | _ => false
def eMl (f : D → List D → Option D) (Fo : Md D) (FL : Md (List D)) : Md D := bnd Fo fun x => if isLst x = true then bnd FL fun xs => lft (f x xs) else fun _ => .stuck
section
variable {X : Cx} {c : Cfg} {W : WX} {o e : Expr} {es : List Expr} {F : Md D} {FL : Md (List D)}
theorem de_count {apos cpos : Pos} (hK : c.K = X.K) (ho : PE X o (tD c W F)) (ha : PA X (e :: es) (tL c W FL))
    (hbase : attributeBase o "count" X.env (eval o X.env) = eval o X.env := by rfl)
    (hfew : ((backTo cpos (starEach (e :: es) X.env)).all (fun x => !x.1) && (backToKw cpos (keywordEach [] X.env)).all (fun x => x.1.isSome)
      && decide ((e :: es).length + ([] : List Keyword).length + (if ([] : List Keyword).isEmpty then 0 else 1) < 30)) = true := by rfl)
    (hline : (apos.endLine == cpos.line) = true := by rfl) (hs : starEach (e :: es) X.env = (false, eval e X.env) :: starEach es X.env := by rfl) (hplain : (backTo cpos (starEach es X.env)).any (·.1) = false := by rfl) :
    PE X (.Call (.Attribute o "count" apos) (e :: es) [] cpos) (tD c W (eMl dCount F FL)) := by
  refine PE.imp (pe_bm PySem.F.plainAttrs_list PySem.F.slot_list_count PySem.F.type_list_count mt_bcount ho ha hbase hfew hline hs hplain) fun σ H Q h => ?_
  obtain ⟨N0, e0, a, er, h⟩ := h
  unfold eMl at h
  refine bindD er h fun x e1 a1 H1 v er1 st1 rx h => ?_
  by_cases hi : isLst x = true
  · rw [if_pos hi] at h
    cases x with
    | list z =>
      obtain ⟨p, vs0, e', hsq, hl, r1⟩ := rx.list
      refine ⟨by rw [e']; exact .inl ⟨rfl, vs0, hK ▸ hsq⟩, ?_⟩
      refine bindL er1 h fun xs e2 a2 H2 vs er2 st2 rxs h => ?_
      obtain ⟨w, hw, kk⟩ := post_lft (S := ⟨e2, a2, σ, H2⟩) h
      have hm : OpM c.K dCount (rCntB X.K) := by rw [hK]; exact m_count
      exact hm _ H2 _ (.list z) vs xs w Q er2.all_tr (rx.step st2) rxs hw fun u H' s ru => sameS (P := okD c N0 Q) er2 kk s u ru
    | _ => cases hi
  · rw [if_neg hi] at h; exact h.elim
/-- name.count(b) of an own list of bools -/
theorem do_count (i : Nat) {x : Str} {p1 apos cpos : Pos} (hK : c.K = X.K) (hN : X.N[i]? = some x) (hv : Vis X.env.scope x) (he : PE X e (tD c W F)) (hd : (x == ("__debug__" : Str)) = false := by decide +kernel) (hcd : (x == ("__classdict__" : Str)) = false := by decide +kernel)
    (hbase : attributeBase (.Name x p1) "count" X.env (eval (.Name x p1) X.env) = eval (.Name x p1) X.env := by rfl)
    (hfew : ((backTo cpos (starEach [e] X.env)).all (fun x => !x.1) && (backToKw cpos (keywordEach [] X.env)).all (fun x => x.1.isSome)
      && decide ([e].length + ([] : List Keyword).length + (if ([] : List Keyword).isEmpty then 0 else 1) < 30)) = true := by rfl)
    (hline : (apos.endLine == cpos.line) = true := by rfl) (hs : starEach [e] X.env = (false, eval e X.env) :: starEach [] X.env := by rfl) (hplain : (backTo cpos (starEach [] X.env)).any (·.1) = false := by rfl) :
    PE X (.Call (.Attribute (.Name x p1) "count" apos) [e] [] cpos) (tO c W (oLm i wCount (aCons F aNil))) := by
  have hm : OpW c.K wCount (rCntB X.K) := by rw [hK]; exact w_count
  exact do_lm i hK PySem.F.slot_list_count PySem.F.type_list_count mt_bcount hm hN hv (da_cons he da_nil hs) hd hcd hbase hfew hline hs hplain
/-- != of two ints: no room asked -/
def dNeI : D → D → Option D
  | .int i, .int j => some (.bool (!(i == j)))
  | _, _ => none
theorem o_neI {K : PySem.W.Frag} : Op2 K dNeI rNe := by
  intro N H x y dx dy dz Q hN rx ry hz k
  unfold dNeI at hz
  split at hz
  · rename_i i j
    cases hz
    cases rx; cases ry
    exact ⟨rfl, by rw [dec_int]; exact k _ H same_rfl (.bl _)⟩
  · cases hz
theorem dt_neI {e1 e2 : Expr} {pos : Pos} {Fa Fb : Md D} (ha : PE X e1 (tD c W Fa)) (hb : PE X e2 (tD c W Fb)) (hm : behindInMarks .NotEq e2 = false := by rfl) : PT X (.Compare e1 [.NotEq] [e2] pos) (tT c W (tCm dNeI Fa Fb)) := dt_cmp op_ne o_neI ha hb hm
/-- name[k] of an own list, k a constant, the answer a plain one -/
def eIxK (i : Nat) (k : D) : Md D := fun e => match e[i]? with
  | some (.ol ds) => match dIx (.list ds) k with
    | some z => if isScal z = true then .ok z e else .stuck
    | none => .stuck
  | _ => .stuck
theorem de_ixK (i : Nat) {x : Str} {k : Int} {j : Nat} {p1 p2 pos : Pos} (hK : c.K = X.K) (hN : X.N[i]? = some x) (hv : Vis X.env.scope x) (hs : PlainIx (.Constant (.int k) j p2)) (hd : (x == ("__debug__" : Str)) = false := by decide +kernel) (hcd : (x == ("__classdict__" : Str)) = false := by decide +kernel) :
    PE X (.Subscript (.Name x p1) (.Constant (.int k) j p2) pos) (tD c W (eIxK i (.int k))) := by
  refine PE.imp (pe_ix (ixor ix_list (ixor ix_tup ix_str)) (pe_var (i := i) hN hv hd hcd) pe_int hs) fun σ H Q h => ?_
  obtain ⟨N0, e, a, er, h⟩ := h
  unfold eIxK at h
  revert h
  cases h1 : e[i]? with
  | none => exact fun h => h.elim
  | some sv =>
    cases sv with
    | ol ds =>
      intro h
      obtain ⟨p, hσ, rp⟩ := er.peek h1
      cases hz : dIx (.list ds) (.int k) with
      | none => simp only [hz] at h; exact h.elim
      | some z =>
        simp only [hz] at h
        cases hs : isScal z with
        | false => rw [hs] at h; exact h.elim
        | true =>
          rw [hs] at h
          simp only [if_true] at h
          have hm : Op2 c.K dIx (rIxD X.K) := by rw [hK]; exact o_ix
          exact ⟨.ref p, hσ, hm _ H (.ref p) (.int k) (.list ds) (.int k) z Q (fun _ z => z.elim) rp (.int k) hz fun w H' s rw => h a H' (er.grow (S := ⟨e, a, σ, H⟩) s) (Stp.grow (S := ⟨e, a, σ, H⟩) s) w (rw.scal hs)⟩
    | _ => exact fun h => h.elim
end
end VL

set_option Elab.async false
set_option autoImplicit false
set_option linter.all false
set_option maxRecDepth 100000
set_option maxHeartbeats 4000000
/-! VLH: heard(lambda: ..), heard's def given by its FunD. -/
namespace VL
open PySem PySem.Spec PyProof.Rows L2 LamX
section
variable {X : Cx}
theorem de_heardF {gb : Bool} {c : Cfg} {W : WX} {x a told : Str} {g cc Pt : Addr} {k : Nat} {pg : Arguments} {bg : List Stmt} {sg : Scope} {fdh : FuncData} {Ng : List Str}
    {params : Arguments} {body : Expr} {scope : Scope} {F : Md D} {sub : Str → Option Bool} {HX : Str → List (Str × D) → Option D} {p lpos pos : Pos} (hK : c.K = X.K) (hg : Gl X x) (hm : X.mg x = some (.ref g)) (Fh : FunD X.K x x pg bg sg [] [] g fdh)
    (hb : L2.Binds X.K fdh [a] []) (Sg : FnScope Ng [a] sg) (hNg : Ng[0]? = some a) (hva : Vis sg a)
    (hG : ∀ cdv, GivesTo X Ng x sg g cdv bg a (X.env.qual ++ "<lambda>") (TTh X.K c.CT c.tt told sub HX))
    (TB : LamX.TabB X.base X.mg cc Pt) (hcode : X.env.code = .ref cc) (hmT : (Pt, X.env.qual ++ "<lambda>") ∈ c.tt) (hu : ∀ p ∈ c.tt, p.1 = Pt → p.2 = X.env.qual ++ "<lambda>") (hr : Rm gb (k + 2) X.A) (L : LamS X.env.scope scope) (hdef : defaultsOf params X.env = ([], []))
    (hbind : ∀ (q : Str) (cl : List (Str × Addr)) (pm cv ctv : Value), bindArgs (PySem.W.kla_fn "<lambda>" q params body scope cl pm cv ctv) ⟨[], []⟩ = pure [])
    (hbody : ∀ (A : Around) (outer : List PySem.Env) (s : Shared) (H : Hp) (E : XK) (f c' : Addr), Rm false k (A.deeper (lamEnv X scope s.heap.objs.size f c')) → PE (lamCx X A outer s H E scope f c') body (tD c (WE E) F))
    (hdb : (x == ("__debug__" : Str)) = false := by decide +kernel) (hd : (a == ("__debug__" : Str)) = false := by decide +kernel) (hcd : (a == ("__classdict__" : Str)) = false := by decide +kernel) :
    PE X (.Call (.Name x p) [.Lambda params body scope lpos] [] pos) (tD c W (eHeard told sub HX F)) := by
  obtain ⟨oc, od, dV, kV, doc, pm, an, cdv, ct, osl, rfl, lk, hcg, _, _⟩ := Fh.ex
  exact de_heard hK hg hm Fh.kp lk hcg hb Sg hNg hva (hG cdv) TB hcode hmT hu hr L hdef hbind hbody hdb hd hcd
end
end VL

set_option Elab.async false
set_option autoImplicit false
set_option linter.all false
set_option maxRecDepth 100000
set_option maxHeartbeats 4000000
/-! VLE: the end of a law whose promise is an FnV: the call at the head's heap. -/
namespace VL
open PySem PySem.Spec PyProof.Rows L2 LamX

section
variable {P : Program} {w : World} {K : PySem.W.Frag} {mg mb : Str → Option Value} {k : Nat} {fa a : Addr} {ts : List Addr} {fd : FuncData} {x : Str} {sp : Sp} {s1 : Shared} {vs : List Value} {ns : List Int}
/-- what the law's call begins with: empty tables, and the script where it is not an object of the written part -/
def hpE (ts : List Addr) (a : Addr) (fr : Bool) (o : Obj) (ws : List V) : Hp := fun b => if b ∈ ts then some (.tbl #[]) else if fr = true ∧ b = a then some (.frz o (.lst ws)) else none
theorem hpE_t {fr : Bool} {o : Obj} {ws : List V} {b : Addr} (h : b ∈ ts) : hpE ts a fr o ws b = some (.tbl #[]) := if_pos h
theorem hpE_some {fr : Bool} {o : Obj} {ws : List V} {b : Addr} {u : HO} (h : hpE ts a fr o ws b = some u) : (b ∈ ts ∧ u = .tbl #[]) ∨ (b ∉ ts ∧ fr = true ∧ b = a ∧ u = .frz o (.lst ws)) := by
  unfold hpE at h
  split at h
  · exact .inl ⟨by assumption, (Option.some.inj h).symm⟩
  · rename_i h1
    split at h
    · rename_i h2
      exact .inr ⟨h1, h2.1, h2.2, (Option.some.inj h).symm⟩
    · cases h
abbrev emptyT : Obj := { cls := .none, data := .fields #[] }
abbrev lstO (vs : List Value) : Obj := { cls := .type "list", data := .seq vs.toArray }
theorem law_callV {cs : List (Addr × Addr)} (KX : K.In s1.heap) (hns : s1.heap.Ns mainGlobals mg) (hb : s1.heap.Ns builtinsNs mb) (hbb : ∀ y : Str, y ≠ "__name__" → mb y = bootBuiltins y) (hlim : s1.heap.NoLimit) (hg : s1.gens = #[])
    (hT : ∀ p ∈ cs, s1.heap.get? p.2 = some emptyT) (nT : ∀ p ∈ cs, K.lookup p.2 = none) (C : ∀ p ∈ cs, PySem.W.CodeHd s1.heap p.1 p.2)
    (hbm : ∃ (bm : Addr) (ob : Obj), mg "__builtins__" = some (.ref bm) ∧ bm ≠ builtinsNs ∧ s1.heap.get? bm = some ob ∧ ob.cls = .type "module" ∧ ob.dict = some builtinsNs ∧ ob.data = .plain)
    (ha : s1.heap.get? a = some (lstO vs)) (hi : IntsAre vs ns) (hl : ns.length ≤ sizeLine) (hr : Room k callerA)
    (F : ∀ base : Heap, K.In base → base.Ns mainGlobals mg → (∀ p ∈ cs, TabB base mg p.1 p.2) → FnV P w K mg base (L2.CX P w) true k fa fd [x] sp) (hbind : ∀ (s : Shared) (u : Value), BindsTo s fd ⟨[u], []⟩ [(x, u)])
    (hsp : ∀ H : Hp, (∀ p ∈ cs, H p.2 = some (.tbl #[])) → SqL K H a (ns.map V.int) → sp [.ref a] H (fun v _ => v = .bl true) fun _ _ _ => False) :
    codeAny (model P w) callerA (.call (.ref fa) ⟨[.ref a], []⟩) (fun r s' => r = .ok (.ret (.bool true)) ∧ OldK s1.heap s'.heap ∧ s'.os = s1.os ∧ AllBare s'.gens) s1 := by
  have rv := vals_ints hi
  generalize hts : cs.map (·.2) = ts
  have inT : ∀ {b : Addr}, b ∈ ts → ∃ p ∈ cs, p.2 = b := fun hb => by
    rw [← hts] at hb
    exact List.mem_map.mp hb
  have ofT : ∀ {p : Addr × Addr}, p ∈ cs → p.2 ∈ ts := fun hp => by
    rw [← hts]
    exact List.mem_map.mpr ⟨_, hp, rfl⟩
  have getT : ∀ {b : Addr}, b ∈ ts → s1.heap.get? b = some emptyT := fun hb => by
    obtain ⟨p, hp, rfl⟩ := inT hb
    exact hT p hp
  have naT : a ∉ ts := fun z => by
    have q := ha.symm.trans (getT z)
    exact nomatch congrArg Obj.data (Option.some.inj q)
  have ex : ∃ fr : Bool, (fr = true → K.lookup a = none) ∧ SqL K (hpE ts a fr (lstO vs) (ns.map V.int)) a (ns.map V.int) := by
    cases hk : K.lookup a with
    | none =>
      refine ⟨true, fun _ => rfl, .inl (.inr ⟨lstO vs, ?_⟩)⟩
      unfold hpE
      rw [if_neg naT, if_pos ⟨rfl, rfl⟩]
    | some o =>
      have e := Option.some.inj (ha.symm.trans (KX a o hk))
      refine ⟨false, (fun z => absurd z Bool.false_ne_true), .inr ⟨o, vs.toArray, _, hk, by rw [← e], by rw [← e], by rw [← e], by rw [List.size_toArray, hi.length]; exact hl, by simpa using rv⟩⟩
  obtain ⟨fr, hfr, hS⟩ := ex
  generalize hHdef : hpE ts a fr (lstO vs) (ns.map V.int) = H at hS
  have sm : ∀ {b : Addr} {u : HO}, H b = some u → (b ∈ ts ∧ u = .tbl #[]) ∨ (b ∉ ts ∧ fr = true ∧ b = a ∧ u = .frz (lstO vs) (.lst (ns.map V.int))) := fun h => hpE_some (hHdef ▸ h)
  have tb : ∀ p ∈ cs, H p.2 = some (.tbl #[]) := fun p hp => by rw [← hHdef]; exact hpE_t (ofT hp)
  have hok : HOk P w H s1.heap := fun b u e => by
    rcases sm e with ⟨h1, rfl⟩ | ⟨_, _, rfl, rfl⟩
    · exact getT h1
    · exact ⟨ha, by rw [List.length_map]; exact hl, vs, _, rv, ha⟩
  -- an object of another kind is not tracked
  have free : ∀ {b : Addr} {o : Obj}, s1.heap.get? b = some o → o.data ≠ .fields #[] → (∀ us n, o.data ≠ .seq us n) → H b = none := fun {b o} e h1 h2 => by
    cases q : H b with
    | none => rfl
    | some u =>
      rcases sm q with ⟨h3, _⟩ | ⟨_, _, rfl, _⟩
      · have z := Option.some.inj (e.symm.trans (getT h3))
        exact (h1 (by rw [z])).elim
      · have z := Option.some.inj (e.symm.trans ha)
        exact (h2 _ _ (by rw [z])).elim
  have isD : ∀ {b : Addr} {m : Str → Option Value}, s1.heap.Ns b m → (hidT s1.heap H).Ns b m := fun {b m} ⟨o, es, ep, e, d, r⟩ =>
    ⟨o, es, ep, hidT_get e (free e (by rw [d]; exact fun z => nomatch z) (by rw [d]; exact fun _ _ z => nomatch z)), d, r⟩
  have kin : K.In (hidT s1.heap H) := fun b o e => hidT_get (KX b o e) (by
    cases q : H b with
    | none => rfl
    | some u =>
      rcases sm q with ⟨h3, _⟩ | ⟨_, h4, rfl, _⟩
      · obtain ⟨p, hp, rfl⟩ := inT h3
        exact nomatch (nT p hp).symm.trans e
      · exact nomatch (hfr h4).symm.trans e)
  have md : L2.Mod K mg (hidT s1.heap H) := by
    obtain ⟨mc, l1, l2⟩ := hlim
    exact ⟨kin, isD hns, ⟨mb, isD hb, hbb⟩, ⟨mc, isD l1, l2⟩⟩
  have e0 : Env0 P w K mg (hidT s1.heap H) callerA [] s1 H := ⟨rfl, md, fun _ _ e => of_hidT e, Nat.le_of_eq (hidT_size _ _), trivial, fun _ z => (nomatch z), hok, .of_eq hg⟩
  have TB : ∀ p ∈ cs, TabB (hidT s1.heap H) mg p.1 p.2 := fun p hp => by
    obtain ⟨bm, ob, b1, b2, b3, b4, b5, b6⟩ := hbm
    obtain ⟨og, es, ep, g1, g2, _⟩ := hns
    refine ⟨?_, ⟨bm, ob, b1, b2, fun z => ?_, fun z => ?_, hidT_get b3 (free b3 (by rw [b6]; exact fun z => nomatch z) (by rw [b6]; exact fun _ _ z => nomatch z)), b4, b5, b6⟩, fun z => ?_⟩
    · obtain ⟨o, us, file, tf, flags, tg, inF, text, tt, e1, r1, r2, r3, r⟩ := C p hp
      refine ⟨o, us, file, tf, flags, tg, inF, text, tt, hidT_get e1 (free e1 (by rw [r2]; intro z; cases z; simp at r3) (by rw [r2]; exact fun _ _ z => nomatch z)), r1, r2, r3, r⟩
    · rw [z, g1] at b3
      cases b3
      rw [g2] at b6
      cases b6
    · rw [z, hT p hp] at b3
      cases b3
      cases b6
    · rw [z, hT p hp] at g1
      cases g1
      cases g2
  refine codeAny_mono ((F _ kin (isD hns) TB).run callerA [] s1 H ⟨[.ref a], []⟩ [.ref a] [.ref a] _ _ ⟨hr, fun _ => rfl⟩ e0 (hbind s1 (.ref a)) (.cons rfl .nil) (hsp H tb hS)) fun r s' h => ?_
  match r, h with
  | .error e, h =>
    obtain ⟨_, _, _, _, _, _, _, _, _, _, _, _, z⟩ := h
    exact z.elim
  | .ok .next, h => exact False.elim h
  | .ok .brk, h => exact False.elim h
  | .ok .cont, h => exact False.elim h
  | .ok (.ret u), h =>
    obtain ⟨v, H', os, bare, un, hok', ru, rfl⟩ := h
    obtain rfl : u = Value.bool true := ru
    have stay : ∀ b o, b ∉ ts → s1.heap.get? b = some o → s'.heap.get? b = some o := fun b o nb e => by
      cases q : H b with
      | none => exact un.keep b o e q (fun z => nomatch z) (fun z => nomatch z)
      | some u =>
        rcases sm q with ⟨z, _⟩ | ⟨_, _, rfl, rfl⟩
        · exact (nb z).elim
        · have e2 := (hok' _ _ (un.frzs _ _ _ q)).1
          rw [← e, ha]
          exact e2
    have grow : ∀ p ∈ cs, ∃ more : Array Value, s'.heap.get? p.2 = some { cls := .none, data := .fields more } := fun p hp => by
      obtain ⟨more, z⟩ := un.tbls p.2 #[] (tb p hp)
      exact ⟨_, hok' p.2 _ z⟩
    refine ⟨rfl, ⟨fun b o e => ?_, fun b o e => ?_⟩, os, bare⟩
    · by_cases hb : b ∈ ts
      · obtain ⟨p, hp, rfl⟩ := inT hb
        obtain ⟨more, z⟩ := grow p hp
        obtain rfl := Option.some.inj (e.symm.trans (hT p hp))
        refine .inr (.inl ⟨((C p hp).tab (hT p hp)).isCodeTable, rfl, #[], more, rfl, ?_⟩)
        rw [Array.empty_append]
        exact z
      · exact .inl (stay b o hb e)
    · by_cases hb : b ∈ ts
      · obtain ⟨p, hp, rfl⟩ := inT hb
        obtain ⟨more, z⟩ := grow p hp
        exact ⟨_, z⟩
      · exact ⟨o, stay b o hb e⟩
end
/-- what is known of the law's promise at the head's heap h -/
def LawV (l : PySem.W.OpenLaw) (w : World) (K : PySem.W.Frag) (k n : Nat) (x : Str) (mg : Str → Option Value) (fa : Addr) (h : Heap) : Prop :=
  ∃ (fd : FuncData) (cs : List (Addr × Addr)) (sp : Sp), (∀ p ∈ cs, h.get? p.2 = some emptyT ∧ K.lookup p.2 = none ∧ PySem.W.CodeHd h p.1 p.2) ∧ (∀ (s : Shared) (u : Value), BindsTo s fd ⟨[u], []⟩ [(x, u)]) ∧
    (∀ (H : Hp) (a : Addr) (ns : List Int), ns.length ≤ n → (∀ z ∈ ns, Builtin.Int.intBits z ≤ 1048576) → (∀ p ∈ cs, H p.2 = some (.tbl #[])) → SqL K H a (ns.map V.int) → sp [.ref a] H (fun v _ => v = .bl true) fun _ _ _ => False) ∧
    ∀ base : Heap, K.In base → base.Ns mainGlobals mg → (∀ p ∈ cs, TabB base mg p.1 p.2) → FnV l.prog w K mg base (L2.CX l.prog w) true k fa fd [x] sp
theorem walk_ofV {l : PySem.W.OpenLaw} {n k : Nat} {q : Program} {loose : List Str} {XP : (Str → Option Value) → Heap → Prop} {YP : World → Heap → Prop} {d : DefRec} {x : Str}
    (hn : l.most = some n) (hn2 : n ≤ sizeLine) (hdf : d.params.defaults = []) (hr : Room k callerA)
    (F : ∀ (w : World) (mg : Str → Option Value) (fa : Addr) (h : Heap), YP w h → h.Ns mainGlobals mg → mg d.name = some (.ref fa) → ∃ K : PySem.W.Frag, K.In h ∧ LawV l w K k n x mg fa h) :
    PySem.W.WalkO q loose XP YP l.row.toRowW d [] (fun f vs => PySem.call f vs) := by
  refine Att.attach_callB hn hdf fun w s0 s1 mg mb fa o pm cd doc a vs ns G Y ho hd hcd hmg hobj hints hlen hbits hg => ?_
  obtain ⟨K, KX, fd, cs, sp, hC, hb, hsp, hF⟩ := F w mg fa _ Y G.T.g hmg
  exact law_callV KX G.T.g G.T.b G.T.builtins G.T.nolimit hg (fun p hp => (hC p hp).1) (fun p hp => (hC p hp).2.1) (fun p hp => (hC p hp).2.2) G.T.bmain hobj hints (Nat.le_trans hlen hn2) hr hF hb (fun H hH hS => hsp H a ns hlen hbits hH hS)
/-- the promise at a script, from what the law's function says -/
theorem spV_law {K : PySem.W.Frag} {CT : Str → Option Addr} {tt : List (Addr × Str)} {f : Md SV} {H : Hp} {a : Addr} {ns : List Int} {e : Env} (hf : f [.d (.list (ns.map PyData.int))] = .ok (.d (.bool true)) e) (hl : ns.length ≤ sizeLine) (hS : SqL K H a (ns.map V.int)) (hT : ∀ p ∈ tt, H p.1 = some (.tbl #[])) :
    spV K CT tt 1 f [.ref a] H (fun v _ => v = .bl true) fun _ _ _ => False := by
  have rs : ∀ N, Rps K N H (ns.map V.int) (ns.map PyData.int) := fun N => by
    clear hf hl hS
    induction ns with
    | nil => exact .nil
    | cons i r ih => exact .cons (.int i) ih
  have rp : Rp K (NN (fun _ => False) fun _ => []) H (.ref a) (.list (ns.map PyData.int)) := by
    rcases hS with h | h
    · exact .lst h (fun z => z.elim id fun ⟨_, m⟩ => nomatch m) (by rw [List.length_map]; exact hl) (rs _)
    · exact .lstW (.inr h) (by rw [List.length_map]; exact hl) (rs _)
  refine ⟨rfl, fun _ => False, [.d (.list (ns.map PyData.int))], fun _ => [], ⟨rfl, fun i sv q => ?_, fun _ _ => rfl, fun _ => List.nodup_nil, (fun _ _ _ m => nomatch m), (fun _ _ m => nomatch m), (fun _ z => z.elim), fun p hp => TabS.nil (hT p hp)⟩, ?_⟩
  · match i, q with
    | 0, q =>
      cases q
      exact .inr ⟨.ref a, rfl, .d rp⟩
    | i + 1, q => cases q
  · rw [hf]
    intro hle a' H' v er _
    have z := er.get_d (i := e.length) (x := .bool true) (by show (e ++ [SV.d (.bool true)])[e.length]? = _; simp)
    obtain ⟨u, hu, r⟩ := z
    have hu : ([V.ref a].map some ++ [some v])[e.length]? = some (some u) := hu
    rw [hle] at hu
    cases hu
    cases r
    rfl
end VL

set_option Elab.async false
set_option autoImplicit false
set_option linter.all false
set_option maxRecDepth 100000
set_option maxHeartbeats 4000000
/-! VLW: the __init__ of an own exception with one field, with two. -/
namespace VL
open PySem PySem.Spec PyProof.Rows L2 NdefX
section
variable {P : Program} {w : World} {K : PySem.W.Frag} {mg : Str → Option Value} {base : Heap} {qual : Str} {params : Arguments} {body : List Stmt} {scope : Scope} {C cc cda f : Addr} {fd : FuncData} {ar : Arg}
theorem exc_two {f1 f2 : Str} {p0 p1 ap p3 p4 q1 q2 a1 a2 b1 b2 c1 c2 d1 d2 : Pos} {pl : Sem Bool}
    (hbody : body = [.Expr (.Call (.Attribute (.Call (.Name "super" p0) [] [] p1) "__init__" ap) [.Name f1 q1, .Name f2 q2] [] p3) p4,
      .Assign [.Attribute (.Name "self" a1) f1 a2] (.Name f1 b1) b2, .Assign [.Attribute (.Name "self" c1) f2 c2] (.Name f2 d1) d2])
    (XF : XFun P K "__init__" qual params body scope C cc cda f fd "self" ar) (T : OexC K C) (hmg : mg "super" = none)
    (S : NScope ["self", f1, f2, "__class__"] ["self", f1, f2] ["__class__"] scope) (l1 : scope.names.lookup f1 = some .local) (l2 : scope.names.lookup f2 = some .local) (l0 : scope.names.lookup ("self" : Str) = some .local)
    (u1 : (f1 == ("__debug__" : Str)) = false) (u2 : (f2 == ("__debug__" : Str)) = false) (v1 : (f1 == ("__classdict__" : Str)) = false) (v2 : (f2 == ("__classdict__" : Str)) = false)
    (n1 : PySem.W.findIn K (.ref C) f1 = some none) (n2 : PySem.W.findIn K (.ref C) f2 = some none)
    (hev : ∀ L, eval (.Call (.Attribute (.Call (.Name "super" p0) [] [] p1) "__init__" ap) [.Name f1 q1, .Name f2 q2] [] p3) (envF (nfX "__init__" qual params body scope cc cda) f L) = (do
      let ov ← attributeBase (.Call (.Name "super" p0) [] [] p1) "__init__" (envF (nfX "__init__" qual params body scope cc cda) f L) (eval (.Call (.Name "super" p0) [] [] p1) (envF (nfX "__init__" qual params body scope cc cda) f L))
      standAt ap.atName
      let (f', first) ← holding [ov] (getMethod ov "__init__" pl)
      callWith p3 f' first (backTo p3 (starEach [.Name f1 q1, .Name f2 q2] (envF (nfX "__init__" qual params body scope cc cda) f L))) []))
    (hin : ∀ L, interactive (envF (nfX "__init__" qual params body scope cc cda) f L) = false) :
    FnOk P w K mg base (L2.CX P w) 1 f fd ["self", f1, f2] (spE C [f1, f2]) := by
  refine exc_fn (N := ["self", f1, f2, "__class__"]) (k := 0) (j := 3) (pl := pl) (e := .Name f1 q1) (es := [.Name f2 q2]) (rest := [.Assign [.Attribute (.Name "self" a1) f1 a2] (.Name f1 b1) b2, .Assign [.Attribute (.Name "self" c1) f2 c2] (.Name f2 d1) d2]) XF T hmg S rfl hbody rfl rfl rfl (.inl l0) (by decide +kernel) (by decide +kernel)
    (fun A outer s H E => pa_cons (pe_var (i := 1) rfl (.inl l1) u1 v1) (pa_cons (pe_var (i := 2) rfl (.inl l2) u2 v2) pa_nil)) (fun a ws H hw => ?_)
    (T2 := tSeq (tOst K f1 (tVar 0) (tVar 1)) (tOst K f2 (tVar 0) (tVar 2))) (fun A outer s H E => by
      refine pss_cons ?_ (pss_one ?_)
      · exact ps_ost (pe_var (i := 0) (x := "self") rfl (.inl l0) (by decide +kernel) (by decide +kernel)) (pe_var (i := 1) rfl (.inl l1) u1 v1) (hs := rfl)
      · exact ps_ost (pe_var (i := 0) (x := "self") rfl (.inl l0) (by decide +kernel) (by decide +kernel)) (pe_var (i := 2) rfl (.inl l2) u2 v2) (hs := rfl)) (fun a ws H Q hw he hq => ?_)
    (fun L => rfl) (fun L => rfl) hev hin (fun L => rfl)
  · match ws, hw with
    | [u, v], _ => exact ⟨u, rfl, v, rfl, rfl, (Nat.le_of_ble_eq_true rfl)⟩
  · match ws, hw with
    | [u, v], _ =>
      refine ⟨u, rfl, .ref a, rfl, a, C, rfl, T, n1, .inl ⟨he, fun dx hd hne => ?_⟩⟩
      refine ⟨v, rfl, .ref a, rfl, a, C, rfl, T, n2, .inr ⟨dx, [(f1, u)], upd_same, ?_, (Nat.le_of_ble_eq_true rfl), ?_⟩⟩
      · rw [upd_ne hne]; exact upd_same
      · refine hq _ dx hd hne ?_ ?_ fun b h1 h2 => ?_
        · rw [upd_ne (Ne.symm hne)]; exact upd_same
        · exact upd_same
        · rw [upd_ne h2, upd_ne h1, upd_ne h2]
theorem exc_one {f1 : Str} {p0 p1 ap p3 p4 q1 a1 a2 b1 b2 : Pos} {pl : Sem Bool}
    (hbody : body = [.Expr (.Call (.Attribute (.Call (.Name "super" p0) [] [] p1) "__init__" ap) [.Name f1 q1] [] p3) p4, .Assign [.Attribute (.Name "self" a1) f1 a2] (.Name f1 b1) b2])
    (XF : XFun P K "__init__" qual params body scope C cc cda f fd "self" ar) (T : OexC K C) (hmg : mg "super" = none)
    (S : NScope ["self", f1, "__class__"] ["self", f1] ["__class__"] scope) (l1 : scope.names.lookup f1 = some .local) (l0 : scope.names.lookup ("self" : Str) = some .local)
    (u1 : (f1 == ("__debug__" : Str)) = false) (v1 : (f1 == ("__classdict__" : Str)) = false)
    (n1 : PySem.W.findIn K (.ref C) f1 = some none)
    (hev : ∀ L, eval (.Call (.Attribute (.Call (.Name "super" p0) [] [] p1) "__init__" ap) [.Name f1 q1] [] p3) (envF (nfX "__init__" qual params body scope cc cda) f L) = (do
      let ov ← attributeBase (.Call (.Name "super" p0) [] [] p1) "__init__" (envF (nfX "__init__" qual params body scope cc cda) f L) (eval (.Call (.Name "super" p0) [] [] p1) (envF (nfX "__init__" qual params body scope cc cda) f L))
      standAt ap.atName
      let (f', first) ← holding [ov] (getMethod ov "__init__" pl)
      callWith p3 f' first (backTo p3 (starEach [.Name f1 q1] (envF (nfX "__init__" qual params body scope cc cda) f L))) []))
    (hin : ∀ L, interactive (envF (nfX "__init__" qual params body scope cc cda) f L) = false) :
    FnOk P w K mg base (L2.CX P w) 1 f fd ["self", f1] (spE C [f1]) := by
  refine exc_fn (N := ["self", f1, "__class__"]) (k := 0) (j := 2) (pl := pl) (e := .Name f1 q1) (es := []) (rest := [.Assign [.Attribute (.Name "self" a1) f1 a2] (.Name f1 b1) b2]) XF T hmg S rfl hbody rfl rfl rfl (.inl l0) (by decide +kernel) (by decide +kernel)
    (fun A outer s H E => pa_cons (pe_var (i := 1) rfl (.inl l1) u1 v1) pa_nil) (fun a ws H hw => ?_)
    (T2 := tOst K f1 (tVar 0) (tVar 1)) (fun A outer s H E => by
      refine pss_one ?_
      exact ps_ost (pe_var (i := 0) (x := "self") rfl (.inl l0) (by decide +kernel) (by decide +kernel)) (pe_var (i := 1) rfl (.inl l1) u1 v1) (hs := rfl)) (fun a ws H Q hw he hq => ?_)
    (fun L => rfl) (fun L => rfl) hev hin (fun L => rfl)
  · match ws, hw with
    | [u], _ => exact ⟨u, rfl, rfl, (Nat.le_of_ble_eq_true rfl)⟩
  · match ws, hw with
    | [u], _ =>
      refine ⟨u, rfl, .ref a, rfl, a, C, rfl, T, n1, .inl ⟨he, fun dx hd hne => ?_⟩⟩
      refine hq _ dx hd hne ?_ ?_ fun b h1 h2 => ?_
      · exact upd_same
      · rw [upd_ne hne]; exact upd_same
      · rw [upd_ne h1, upd_ne h2]
end
end VL

set_option Elab.async false
set_option autoImplicit false
set_option linter.all false
set_option maxRecDepth 100000
set_option maxHeartbeats 4000000
/-! VLD: the head: what is looked at behind the top, and what it tells. -/
namespace VL
open PySem PySem.Spec PyProof.Rows L2

/-! ### the __init__ of own exceptions -/
structure ExD where
  c : Str
  qual : Str
  params : Arguments
  body : List Stmt
  scope : Scope
abbrev FnC : Type := Option (Str × Str × Arguments × FuncBody × Scope × Addr × List Str × Addr)
abbrev ini (K : PySem.W.Frag) (c : Str) : Addr := He.ma K (He.ga K c) "__init__"
def fnC (K : PySem.W.Frag) (c : Str) : FnC := match K.lookup (ini K c) with
  | some ⟨_, _, .func fd, _⟩ => some (fd.name, fd.qualname, fd.params, fd.body, fd.scope, fd.globals, fd.closure.map (·.1), fd.builtins)
  | _ => none
def ExD.val (d : ExD) : FnC := some ("__init__", d.qual, d.params, .stmts d.body, d.scope, mainGlobals, ["__class__"], builtinsNs)
def codeFileB (file : Str) (K : PySem.W.Frag) (cda : Addr) : Bool := match K.lookup cda with
  | some ⟨_, _, .fields vs, _⟩ => (match (vs[2]? : Option Value) with
    | some (.str fl _) => file == fl
    | _ => false)
  | _ => false
def cellB (K : PySem.W.Frag) (cc C : Addr) : Bool := match K.lookup cc with
  | some ⟨_, _, .cell (some (.ref C')), _⟩ => decide (C' = C)
  | _ => false
def codeXB (file : Str) (K : PySem.W.Frag) (qual : Str) : Value → Bool
  | .ref cda => PySem.W.codeIn K (.ref cda) qual && codeFileB file K cda
  | _ => false
theorem codeXB_ok {file : Str} {K : PySem.W.Frag} {qual : Str} {v : Value} (h : codeXB file K qual v = true) : ∃ cda, v = .ref cda ∧ PySem.W.codeIn K (.ref cda) qual = true ∧ codeFileB file K cda = true := by
  cases v with
  | ref cda => exact ⟨cda, rfl, He.ba h⟩
  | _ => cases h
def closXB (K : PySem.W.Frag) (C : Addr) : List (Str × Addr) → Bool
  | [(_, cc)] => cellB K cc C
  | _ => false
theorem closXB_ok {K : PySem.W.Frag} {C : Addr} {l : List (Str × Addr)} (h : closXB K C l = true) : ∃ x cc, l = [(x, cc)] ∧ cellB K cc C = true := by
  match l, h with
  | [(x, cc)], h => exact ⟨x, cc, rfl, h⟩
  | [], h => cases h
  | _ :: _ :: _, h => cases h
def noneB : Value → Bool
  | .none => true
  | _ => false
theorem noneB_ok {v : Value} (h : noneB v = true) : v = .none := by
  cases v with
  | none => rfl
  | _ => cases h
def xfnB (file : Str) (K : PySem.W.Frag) (c qual : Str) : Bool := match K.lookup (ini K c) with
  | some ⟨_, _, .func fd, _⟩ => codeXB file K qual fd.code && (closXB K (He.ga K c) fd.closure && noneB fd.defaults)
  | _ => false
def xclB (K : PySem.W.Frag) (C : Addr) : Bool := (match PySem.W.clsIn K C with
    | some cd => He.eqO (PySem.W.alongIn K "__init__" ((cd.mro.dropWhile (· != .ref C)).drop 1)) (some (some (.builtin "ValueError.__init__")))
    | none => false) && (decide (PySem.W.mroIn K C (.ref C) = some true) && decide (PySem.W.mroIn K C (.type "ValueError") = some true))
def oexB (K : PySem.W.Frag) (C : Addr) : Bool := (match K.lookup C with
    | some ⟨.type t, _, .cls cd, sl⟩ => decide (t = "type") && (match cd.mro, sl.toList with
      | .ref C' :: bm, [_, _, _, _, some (.builtin n), _] => decide (C' = C) && (decide (n = "ValueError.__new__") && (!cd.hasDel && (cd.hasDict && PySem.HandSPX.refsVE bm)))
      | _, _ => false)
    | _ => false) && (He.eqO (PySem.W.findIn K (.ref C) "__setattr__") (some (some (.builtin "object.__setattr__"))) && (decide (PySem.W.subIn K (.ref C) (.type "BaseException") = some true) &&
    (decide (PySem.W.typeIn K (.ref C) = some (.type "type")) && PySem.W.keepIn K (.ref C))))
def iniB (K : PySem.W.Frag) (c : Str) : Bool := He.eqO (PySem.W.findIn K (.ref (He.ga K c)) "__init__") (some (some (.ref (ini K c)))) && decide (PySem.W.typeIn K (.ref (ini K c)) = some (.type "function"))
def opqB (K : PySem.W.Frag) : Bool := He.eqO (PySem.W.nsIn K cStatics "thirdparty.any") (some none)
def noAtB (K : PySem.W.Frag) (c : Str) (fs : List Str) : Bool := fs.all fun f => He.eqO (PySem.W.findIn K (.ref (He.ga K c)) f) (some none)
section
variable {K : PySem.W.Frag}
theorem oexB_ok {C : Addr} (h : oexB K C = true) : OexC K C := by
  obtain ⟨h1, h⟩ := He.ba h
  obtain ⟨h2, h⟩ := He.ba h
  obtain ⟨h3, h⟩ := He.ba h
  obtain ⟨h4, h5⟩ := He.ba h
  refine ⟨?_, He.eqO_ok h2, of_decide_eq_true h3, of_decide_eq_true h4, h5⟩
  split at h1
  · rename_i t dd cd sl ho
    obtain ⟨ht, h1⟩ := He.ba h1
    split at h1
    · rename_i C' bm k0 k1 k2 k3 n k5 hm hs
      obtain ⟨e1, h1⟩ := He.ba h1
      obtain ⟨e2, h1⟩ := He.ba h1
      obtain ⟨e3, h1⟩ := He.ba h1
      obtain ⟨e4, e5⟩ := He.ba h1
      have e1 := of_decide_eq_true e1
      have e2 := of_decide_eq_true e2
      have ht := of_decide_eq_true ht
      obtain ⟨nm, bs, mro, ns, qn, hd, sn, sub, ab, col, del⟩ := cd
      dsimp only at hm e3 e4
      have e3 : del = false := by simpa using e3
      obtain ⟨l⟩ := sl
      have hs : l = [k0, k1, k2, k3, some (.builtin n), k5] := hs
      subst hm e1 e2 e3 e4 ht hs
      exact ⟨nm, qn, ns, bs, bm, sn, sub, ab, col, dd, k0, k1, k2, k3, k5, ho, e5⟩
    · cases h1
  · cases h1
theorem xfun_of {P : Program} {file : Str} {d : ExD} {ar : Arg} (hP : P.main.file = file) (hv : fnC K d.c = d.val) (h1 : xfnB file K d.c d.qual = true) (h2 : xclB K (He.ga K d.c) = true) (h3 : opqB K = true)
    (fst : (d.params.posonlyargs ++ d.params.args).head? = some ar) (arg : ar.arg = ("self" : Str)) (kS : d.scope.names.lookup ("super" : Str) = some .globalImplicit) (kC : d.scope.names.lookup ("__class__" : Str) = some .free)
    (top : (P.main.scope.names.lookup ("super" : Str)).isSome = false) : ∃ cc cda fd, XFun P K "__init__" d.qual d.params d.body d.scope (He.ga K d.c) cc cda (ini K d.c) fd "self" ar ∧ fd.defaults = .none := by
  unfold fnC at hv
  unfold xfnB at h1
  cases q : K.lookup (ini K d.c) with
  | none => rw [q] at h1; cases h1
  | some o =>
    obtain ⟨oc, od, dt, osl⟩ := o
    rw [q] at h1 hv
    cases dt with
    | func fd =>
      obtain ⟨n1, n2, n3, n4, n5, n6, n7, n8, n9, n10, n11, n12, n13, n14, n15⟩ := fd
      have e2 : (some (n1, n2, n3, n4, n5, n6, n7.map (·.1), n15) : FnC) = (some (("__init__" : Str), d.qual, d.params, FuncBody.stmts d.body, d.scope, mainGlobals, [("__class__" : Str)], builtinsNs) : FnC) := hv
      simp only [Option.some.injEq, Prod.mk.injEq] at e2
      obtain ⟨g1, g2, g3, g4, g5, g6, g7, g8⟩ := e2
      obtain ⟨k1, k2⟩ := He.ba h1
      obtain ⟨cda, r1, k3, k4⟩ := codeXB_ok k1
      obtain ⟨k2, k6⟩ := He.ba k2
      obtain ⟨x1, cc, r2, k5⟩ := closXB_ok k2
      have r1 : n13 = .ref cda := r1
      have r2 : n7 = [(x1, cc)] := r2
      subst r1 r2
      have g7 : [x1] = [("__class__" : Str)] := g7
      injection g7 with g7 _
      subst g1 g2 g3 g4 g5 g6 g7 g8
      obtain ⟨c1, c2⟩ := He.ba h2
      obtain ⟨c3, c4⟩ := He.ba c2
      refine ⟨cc, cda, _, ⟨⟨oc, od, n8, n9, n10, n11, n12, n14, osl, rfl, q⟩, k3, ?_, ?_, fst, arg, kS, kC, top, ?_, of_decide_eq_true c3, of_decide_eq_true c4, He.eqO_ok h3⟩, noneB_ok k6⟩
      · unfold codeFileB at k4
        split at k4
        · rename_i ccl cdd vs ccs hq
          split at k4
          · rename_i fl tf hfl
            exact ⟨ccl, cdd, vs, ccs, fl, tf, hq, hfl, by rw [hP]; exact k4⟩
          · cases k4
        · cases k4
      · unfold cellB at k5
        split at k5
        · rename_i cl cld C' csl hq
          have z := of_decide_eq_true k5
          subst z
          exact ⟨cl, cld, csl, hq⟩
        · cases k5
      · split at c1
        · rename_i cd hcd
          exact ⟨cd, hcd, He.eqO_ok c1⟩
        · cases c1
    | _ => cases h1
theorem noAtB_ok {c : Str} {fs : List Str} {f : Str} (h : noAtB K c fs = true) (hf : f ∈ fs) : PySem.W.findIn K (.ref (He.ga K c)) f = some none := He.eqO_ok (List.all_eq_true.mp h f hf)
/-! ### classes by names -/
def ctOf (K : PySem.W.Frag) (cs : List Str) : Str → Option Addr := fun cn => if cn ∈ cs then some (He.ga K cn) else none
theorem ctOf_some {cs : List Str} {cn : Str} {C : Addr} (h : ctOf K cs cn = some C) : cn ∈ cs ∧ C = He.ga K cn := by
  unfold ctOf at h
  split at h
  · exact ⟨by assumption, (Option.some.inj h).symm⟩
  · cases h
def exmB (K : PySem.W.Frag) (cs : List Str) (isA : Str → Option Bool) (root : Str) : Bool := cs.all fun cn => match isA cn with
  | some b => decide (PySem.W.exmOne K (.ref (He.ga K cn)) (.ref (He.ga K root)) = some b)
  | none => true
theorem exmB_ok {cs : List Str} {isA : Str → Option Bool} {root : Str} (h : exmB K cs isA root = true) (cn : Str) (C : Addr) (b : Bool) (hC : ctOf K cs cn = some C) (hb : isA cn = some b) : PySem.W.exmOne K (.ref C) (.ref (He.ga K root)) = some b := by
  obtain ⟨h1, rfl⟩ := ctOf_some hC
  have z := List.all_eq_true.mp h cn h1
  rw [hb] at z
  exact of_decide_eq_true z
def kitB (K : PySem.W.Frag) (cs : List Str) (isA : Str → Option Bool) (u : Value) : Bool := cs.all fun cn => match isA cn with
  | some b => decide (PySem.W.kitOne K (.ref (He.ga K cn)) u = some b)
  | none => true
theorem kitB_ok {cs : List Str} {isA : Str → Option Bool} {u : Value} (h : kitB K cs isA u = true) (cn : Str) (C : Addr) (b : Bool) (hC : ctOf K cs cn = some C) (hb : isA cn = some b) : PySem.W.kitOne K (.ref C) u = some b := by
  obtain ⟨h1, rfl⟩ := ctOf_some hC
  have z := List.all_eq_true.mp h cn h1
  rw [hb] at z
  exact of_decide_eq_true z
def excCB (K : PySem.W.Frag) (D : Addr) : Bool := He.eqO (PySem.W.findIn K (.ref D) "__class__") (some (some (.builtin "object.__class__"))) && (He.eqO (PySem.W.specialIn K (.builtin "object.__class__") "__get__") (some (some (.builtin "getset_descriptor.__get__"))) &&
  (decide (PySem.W.takesIn K (.builtin "object.__class__") = some true) && decide (PySem.W.mroIn K D (.type "object") = some true)))
def exqB (K : PySem.W.Frag) (cs : List Str) (isA : Str → Option Bool) (fs : List Str) : Bool := cs.all fun cn => match isA cn with
  | some true => excCB K (He.ga K cn) && (xfB K (He.ga K cn) && noAtB K cn fs)
  | _ => true
theorem exqB_ok {cs : List Str} {isA : Str → Option Bool} {fs : List Str} (h : exqB K cs isA fs = true) (cn : Str) (C : Addr) (hC : ctOf K cs cn = some C) (hb : isA cn = some true) : ExcC K C ∧ XfC K C ∧ ∀ f, f ∈ fs → PySem.W.findIn K (.ref C) f = some none := by
  obtain ⟨h1, rfl⟩ := ctOf_some hC
  have z := List.all_eq_true.mp h cn h1
  rw [hb] at z
  obtain ⟨z1, z⟩ := He.ba z
  obtain ⟨z2, z3⟩ := He.ba z
  obtain ⟨y1, y⟩ := He.ba z1
  obtain ⟨y2, y⟩ := He.ba y
  obtain ⟨y3, y4⟩ := He.ba y
  have x := xfB_ok z2
  exact ⟨⟨x.ga, x.gg, x.exC, x.hdC, He.eqO_ok y1, He.eqO_ok y2, of_decide_eq_true y3, of_decide_eq_true y4⟩, x, fun f hf => noAtB_ok z3 hf⟩
/-! ### constants of the module -/
theorem gloI {h : Heap} {mg : Str → Option Value} {x : Str} {i : Int} (X : K.In h) (G : h.Ns mainGlobals mg) (c : (He.Fa.int x i).ok K = true) : GloD K mg x (.int i) := by
  obtain ⟨t, e⟩ := He.int_ok X G c
  exact ⟨.int i, _, e, ⟨t, rfl⟩, fun _ _ => .int i⟩
theorem gloS {h : Heap} {mg : Str → Option Value} {x z : Str} (X : K.In h) (G : h.Ns mainGlobals mg) (c : (He.Fa.str x z).ok K = true) : GloD K mg x (.str z) := by
  obtain ⟨t, e⟩ := He.str_ok X G c
  exact ⟨.str z, _, e, ⟨t, rfl⟩, fun _ _ => .str z⟩
theorem rps_dvs {N : Addr → Prop} {H : Hp} : ∀ zs : List Str, Rps K N H ((zs.map He.Dv.str).map (He.Dv.v K)) (zs.map PyData.str)
  | [] => .nil
  | z :: r => .cons (.str z) (rps_dvs r)
/-- a tuple of texts -/
theorem gloT {h : Heap} {mg : Str → Option Value} {x : Str} {zs : List Str} {dx : D} (X : K.In h) (G : h.Ns mainGlobals mg) (c : (He.Fa.glo x).ok K = true) (t : He.tupB K x (zs.map He.Dv.str) = true) (hl : zs.length ≤ sizeLine) (hd : dx = .tuple (zs.map PyData.str)) : GloD K mg x dx := by
  subst hd
  exact ⟨.ref (He.ga K x), _, He.glo_ok X G c, rfl, fun N H => .tupW (He.tupB_ok t _) (by simpa using hl) (rps_dvs zs)⟩
/-! ### tables of code objects -/
abbrev lamQ (x : Str) : Str := (x ++ ".<locals>.") ++ "<lambda>"
def ttOf (K : PySem.W.Frag) (tf : List Str) : List (Addr × Str) := tf.map fun x => ((He.cT K (x, none)).2, lamQ x)
def tabUB (K : PySem.W.Frag) (tf : List Str) : Bool := tf.all fun x => tf.all fun y => !decide ((He.cT K (x, none)).2 = (He.cT K (y, none)).2) || decide (x = y)
theorem tab_of {base : Heap} {mg : Str → Option Value} {tf : List Str} {x qual : Str} {params : Arguments} {body : List Stmt} {scope : Scope} {dvs : List V} {kws : List (Str × V)} (hx : x ∈ tf) (hu : tabUB K tf = true) (hT : ∀ p ∈ tf.map (fun x => He.cT K (x, none)), LamX.TabB base mg p.1 p.2)
    (F : ∃ fd, FunD K x qual params body scope dvs kws (He.ga K x) fd) :
    ∃ cc Pt, (∀ v, CodeOf K (He.ga K x) v → v = .ref cc) ∧ LamX.TabB base mg cc Pt ∧ (Pt, lamQ x) ∈ ttOf K tf ∧ ∀ p ∈ ttOf K tf, p.1 = Pt → p.2 = lamQ x := by
  refine ⟨(He.cT K (x, none)).1, (He.cT K (x, none)).2, fun v hv => ?_, hT _ (List.mem_map.mpr ⟨x, hx, rfl⟩), List.mem_map.mpr ⟨x, hx, rfl⟩, fun p hp e => ?_⟩
  · obtain ⟨oc, od, fn, osl, lk, rfl⟩ := hv
    obtain ⟨fd, F⟩ := F
    obtain ⟨oc2, od2, dV, kV, doc, pm, an, cdv, ct, osl2, rfl, lk2, hc, _⟩ := F.ex
    have z := Option.some.inj (lk.symm.trans lk2)
    injection z with z1 z2 z3 z4
    injection z3 with z3
    subst z3
    obtain ⟨c, e⟩ := He.codeIn_ref hc
    subst e
    show Value.ref c = .ref (He.codeOf K (x, none))
    rw [He.codeOf_eq (p := (x, none)) lk2 rfl]
  · obtain ⟨y, hy, rfl⟩ := List.mem_map.mp hp
    have z := List.all_eq_true.mp (List.all_eq_true.mp hu y hy) x hx
    have z : (!decide ((He.cT K (y, none)).2 = (He.cT K (x, none)).2) || decide (y = x)) = true := z
    have e : (He.cT K (y, none)).2 = (He.cT K (x, none)).2 := e
    rw [decide_eq_true e] at z
    have z : y = x := of_decide_eq_true z
    rw [z]
end
def exAll (l : List (PySem.W.Frag → Bool)) (K : PySem.W.Frag) : Bool := l.all fun p => p K
theorem exAll_at {l : List (PySem.W.Frag → Bool)} {K : PySem.W.Frag} (h : exAll l K = true) (i : Nat) {p : PySem.W.Frag → Bool} (hp : l[i]? = some p := by rfl) : p K = true := List.all_eq_true.mp h p (List.mem_of_getElem? hp)
theorem xbinds {K : PySem.W.Frag} {P : Program} {x qual slf : Str} {params : Arguments} {body : List Stmt} {scope : Scope} {C cc cda f : Addr} {fd : FuncData} {ar : Arg} {ps : List Str} (XF : XFun P K x qual params body scope C cc cda f fd slf ar) (hd : fd.defaults = .none)
    (h : ∀ (kV doc pm : Value) (an : Option Addr) (ct : Value) (us : List Value), us.length = ps.length → bindArgs (PySem.W.fnX x qual params body scope [("__class__", cc)] .none kV doc pm an (.ref cda) ct) ⟨us, []⟩ = pure (ps.zip us)) : Binds K fd ps [] := by
  obtain ⟨oc, od, dV, kV, doc, pm, an, ct, osl, rfl, lk⟩ := XF.ex
  have e : dV = .none := hd
  subst e
  exact .all (h kV doc pm an ct)
/-! ### the Hook -/
def asV (g : Addr → Option Obj) (n : Nat) : List Addr := cStatics :: He.asD g n
abbrev AlV : Type := (He.AlD × Bool) × List FnC
def obsK (fa : List He.Fa) (fn : List He.DefD) (tf : List Str) (ex : PySem.W.Frag → Bool) (xs : List ExD) (g : Addr → Option Obj) (K : PySem.W.Frag) : AlV :=
  ((He.obsD fa fn K, ex K && (tabUB K tf && He.tabsB g (tf.map fun x => (x, none)) K)), xs.map fun d => fnC K d.c)
def obsV (n : Nat) (fa : List He.Fa) (fn : List He.DefD) (tf : List Str) (ex : PySem.W.Frag → Bool) (xs : List ExD) (g : Addr → Option Obj) : AlV := obsK fa fn tf ex xs g (He.frT g (asV g n))
def valV (fn : List He.DefD) (xs : List ExD) : AlV := ((He.valD fn, true), xs.map ExD.val)
structure SaysV (fa : List He.Fa) (fn : List He.DefD) (tf : List Str) (ex : PySem.W.Frag → Bool) (xs : List ExD) (h : Heap) (K : PySem.W.Frag) : Prop where
  d : He.SaysD fa fn K
  more : ex K = true
  tu : tabUB K tf = true
  hd : ∀ x ∈ tf, PySem.W.codeHdIn K (He.cT K (x, none)).1 (He.cT K (x, none)).2 = true
  out : ∀ x ∈ tf, K.lookup (He.cT K (x, none)).2 = none
  empty : ∀ x ∈ tf, h.get? (He.cT K (x, none)).2 = some emptyT
  ini : xs.map (fun d => fnC K d.c) = xs.map ExD.val
theorem saysV_of {n : Nat} {fa : List He.Fa} {fn : List He.DefD} {tf : List Str} {ex : PySem.W.Frag → Bool} {xs : List ExD} {h : Heap} (e : obsV n fa fn tf ex xs h.get? = valV fn xs) : SaysV fa fn tf ex xs h (He.frT h.get? (asV h.get? n)) := by
  unfold obsV at e
  generalize hK : He.frT h.get? (asV h.get? n) = K at e ⊢
  have e1 : He.obsD fa fn K = He.valD fn := congrArg (fun z : AlV => z.1.1) e
  have e2 : (ex K && (tabUB K tf && He.tabsB h.get? (tf.map fun x => (x, none)) K)) = true := congrArg (fun z : AlV => z.1.2) e
  obtain ⟨h1, h2⟩ := He.ba e2
  obtain ⟨h3, h4⟩ := He.ba h2
  have key : ∀ x ∈ tf, PySem.W.codeHdIn K (He.cT K (x, none)).1 (He.cT K (x, none)).2 = true ∧ ∃ o, h.get? (He.cT K (x, none)).2 = some o ∧ He.emptyTab o = true := fun x hx => by
    obtain ⟨y1, y2⟩ := He.ba (List.all_eq_true.mp h4 (x, none) (List.mem_map.mpr ⟨x, hx, rfl⟩))
    refine ⟨y1, ?_⟩
    cases q : h.get? (He.cT K (x, none)).2 with
    | none => rw [q] at y2; cases y2
    | some o => rw [q] at y2; exact ⟨o, rfl, y2⟩
  exact ⟨e1, h1, h3, fun x hx => (key x hx).1, fun x hx => by
    obtain ⟨_, o, q, z⟩ := key x hx
    generalize (He.cT K (x, none)).2 = a at q
    rw [← hK]
    exact He.frT_none q z, fun x hx => by
    obtain ⟨_, o, q, z⟩ := key x hx
    rw [q, He.emptyTab_eq z], congrArg (fun z : AlV => z.2) e⟩
def hookV (n : Nat) (fa : List He.Fa) (fn : List He.DefD) (tf : List Str) (ex : PySem.W.Frag → Bool) (xs : List ExD) : PySem.W.Hook where
  α := AlV
  obs := fun s => obsV n fa fn tf ex xs s.heap.get?
  val := fun _ => valV fn xs
  says := fun _ h => ∃ K : PySem.W.Frag, K.In h ∧ SaysV fa fn tf ex xs h K
  of := fun _ _ e => ⟨_, He.frT_in, saysV_of e⟩
  keeps := fun _ _ _ ⟨K, hK, c⟩ k => ⟨K, PySem.W.Frag.In.keeps hK k, ⟨c.d, c.more, c.tu, c.hd, c.out, fun x hx => k _ _ (c.empty x hx), c.ini⟩⟩
theorem obsV_eq {n : Nat} {fa : List He.Fa} {fn : List He.DefD} {tf : List Str} {ex : PySem.W.Frag → Bool} {xs : List ExD} {g : Addr → Option Obj} {s : Shared} (h : ∀ a, g a = s.heap.get? a) : obsV n fa fn tf ex xs g = (hookV n fa fn tf ex xs).obs s := by
  have e : g = s.heap.get? := funext h
  rw [e] <;> rfl
theorem SaysV.ini_at {fa : List He.Fa} {fn : List He.DefD} {tf : List Str} {ex : PySem.W.Frag → Bool} {xs : List ExD} {h : Heap} {K : PySem.W.Frag} (c : SaysV fa fn tf ex xs h K) (i : Nat) {d : ExD} (hd : xs[i]? = some d := by rfl) : fnC K d.c = d.val := by
  have e2 : (xs.map fun d => fnC K d.c)[i]? = (xs.map ExD.val)[i]? := by rw [c.ini]
  rw [List.getElem?_map, List.getElem?_map, hd] at e2
  exact Option.some.inj e2
theorem law_tabs {fa : List He.Fa} {fn : List He.DefD} {tf : List Str} {ex : PySem.W.Frag → Bool} {xs : List ExD} {h : Heap} {K : PySem.W.Frag} (X : K.In h) (c : SaysV fa fn tf ex xs h K) : ∀ p ∈ tf.map (fun x => He.cT K (x, none)), h.get? p.2 = some emptyT ∧ K.lookup p.2 = none ∧ PySem.W.CodeHd h p.1 p.2 := fun p hp => by
  obtain ⟨x, hx, rfl⟩ := List.mem_map.mp hp
  exact ⟨c.empty x hx, c.out x hx, PySem.W.codeHd_of_K X (c.hd x hx)⟩
end VL

set_option Elab.async false
set_option autoImplicit false
set_option linter.all false
set_option maxRecDepth 100000
set_option maxHeartbeats 4000000
/-! VLS: steps of the semantic terms. -/
namespace VL
open PySem
section
variable {α β : Type} {e e1 e2 e3 : Env} {x y z : D} {i j n : Nat} {c : Str} {fs : List (Str × D)} {m a b : Md D} {l : Md (List D)} {t u : Md Bool} {g h : Sm} {v : SV} {mo : Md SV} {p q : Bool}
/-! statements -/
theorem seq_nx (H : g e = .nx e1) : sSeq g h e = h e1 := by unfold sSeq; rw [H]
theorem seq_rt (H : g e = .rt v e1) : sSeq g h e = .rt v e1 := by unfold sSeq; rw [H]
theorem seq_err (H : g e = .err c fs e1) : sSeq g h e = .err c fs e1 := by unfold sSeq; rw [H]
theorem if_t (H : t e = .ok true e1) : sIf t g h e = g e1 := by unfold sIf sB; rw [H]; rfl
theorem if_f (H : t e = .ok false e1) : sIf t g h e = h e1 := by unfold sIf sB; rw [H]; rfl
theorem if_b (H : t e = .ok p e1) : sIf t g h e = if p = true then g e1 else h e1 := by unfold sIf sB; rw [H]; cases p <;> rfl
theorem if_err (H : t e = .err c fs e1) : sIf t g h e = .err c fs e1 := by unfold sIf sB; rw [H]
theorem sB_ok {m : Md α} {k : α → Sm} {x : α} (H : m e = .ok x e1) : sB m k e = k x e1 := by unfold sB; rw [H]
theorem sB_err {m : Md α} {k : α → Sm} (H : m e = .err c fs e1) : sB m k e = .err c fs e1 := by unfold sB; rw [H]
theorem ex_ok (H : mo e = .ok v e1) : sEx mo e = .nx e1 := by unfold sEx sB; rw [H]; rfl
theorem ex_err (H : mo e = .err c fs e1) : sEx mo e = .err c fs e1 := by unfold sEx sB; rw [H]
theorem st_ok {g : Tg} (H : m e = .ok x e1) (G : g x e1 = some e2) : sSt g m e = .nx e2 := by unfold sSt sB; rw [H]; simp only [G]
theorem st_n (H : m e = .ok x e1) : sSt (gN j) m e = .nx (e1.set j (.d x)) := st_ok H rfl
theorem st_err {g : Tg} (H : m e = .err c fs e1) : sSt g m e = .err c fs e1 := by unfold sSt sB; rw [H]
theorem sto_ok (H : mo e = .ok v e1) (hj : j < e1.length) : sStO j mo e = .nx (e1.set j v) := by unfold sStO sB; rw [H]; exact if_pos hj
theorem rt_ok (H : mo e = .ok v e1) : sRt mo e = .rt v e1 := by unfold sRt sB; rw [H]
theorem rt_err (H : mo e = .err c fs e1) : sRt mo e = .err c fs e1 := by unfold sRt sB; rw [H]
/-! expressions -/
theorem oD_ok (H : m e = .ok x e1) : oD m e = .ok (.d x) e1 := by unfold oD bnd; rw [H]
theorem oD_err (H : m e = .err c fs e1) : oD m e = .err c fs e1 := by unfold oD bnd; rw [H]
theorem rtD (H : m e = .ok x e1) : sRt (oD m) e = .rt (.d x) e1 := rt_ok (oD_ok H)
theorem rtDe (H : m e = .err c fs e1) : sRt (oD m) e = .err c fs e1 := rt_err (oD_err H)
theorem toD_ok (H : mo e = .ok (.d x) e1) : oToD mo e = .ok x e1 := by unfold oToD; rw [H]
theorem toD_err (H : mo e = .err c fs e1) : oToD mo e = .err c fs e1 := by unfold oToD; rw [H]
theorem op1_ok {f : D → Option D} (H : m e = .ok x e1) (G : f x = some z) : eOp1 f m e = .ok z e1 := by unfold eOp1 bnd; rw [H]; simp only [G]; rfl
theorem op2_ok {f : D → D → Option D} (H : a e = .ok x e1) (H2 : b e1 = .ok y e2) (G : f x y = some z) : eOp2 f a b e = .ok z e2 := by
  unfold eOp2 bnd; rw [H]; simp only; rw [H2]; simp only [G]; rfl
theorem aN_ok : aNil e = .ok [] e := rfl
theorem cons_ok {xs : List D} (H : m e = .ok x e1) (H2 : l e1 = .ok xs e2) : aCons m l e = .ok (x :: xs) e2 := by unfold aCons bnd; rw [H]; simp only; rw [H2]
theorem cons_err (H : m e = .err c fs e1) : aCons m l e = .err c fs e1 := by unfold aCons bnd; rw [H]
theorem eL_ok {f : List D → Option D} {xs : List D} (H : l e = .ok xs e1) (G : f xs = some z) : eL f l e = .ok z e1 := by unfold eL bnd; rw [H]; simp only [G]; rfl
theorem eL_err {f : List D → Option D} (H : l e = .err c fs e1) : eL f l e = .err c fs e1 := by unfold eL bnd; rw [H]
theorem eL1 {f : List D → Option D} (H : m e = .ok x e1) (G : f [x] = some z) : eL f (aCons m aNil) e = .ok z e1 := eL_ok (cons_ok H aN_ok) G
theorem eif_t (H : t e = .ok true e1) : eIf t a b e = a e1 := by unfold eIf bnd; rw [H]; rfl
theorem eif_f (H : t e = .ok false e1) : eIf t a b e = b e1 := by unfold eIf bnd; rw [H]; rfl
theorem tB_ok {f : D → Option Bool} (H : m e = .ok x e1) (G : f x = some p) : tB m f e = .ok p e1 := by unfold tB bnd; rw [H]; simp only [G]; rfl
theorem tB_err {f : D → Option Bool} (H : m e = .err c fs e1) : tB m f e = .err c fs e1 := by unfold tB bnd; rw [H]
theorem tb (H : m e = .ok (.bool p) e1) : tB m truthS e = .ok p e1 := tB_ok H rfl
theorem tcm_ok {f : D → D → Option D} (H : a e = .ok x e1) (H2 : b e1 = .ok y e2) (G : f x y = some (.bool p)) : tCm f a b e = .ok p e2 := by
  unfold tCm bnd; rw [H]; simp only; rw [H2]; simp only [G]; rfl
theorem tnt_ok (H : t e = .ok p e1) : tNt t e = .ok (!p) e1 := by unfold tNt bnd; rw [H]
theorem tan_t (H : t e = .ok true e1) : tAn t u e = u e1 := by unfold tAn bnd; rw [H]; rfl
theorem tan_f (H : t e = .ok false e1) : tAn t u e = .ok false e1 := by unfold tAn bnd; rw [H]; rfl
theorem tan_b (H : t e = .ok p e1) (H2 : u e1 = .ok q e1) : tAn t u e = .ok (p && q) e1 := by
  cases p
  · exact tan_f H
  · exact (tan_t H).trans H2
theorem tor_t (H : t e = .ok true e1) : tOr t u e = .ok true e1 := by unfold tOr bnd; rw [H]; rfl
theorem tor_f (H : t e = .ok false e1) : tOr t u e = u e1 := by unfold tOr bnd; rw [H]; rfl
theorem tor_b (H : t e = .ok p e1) (H2 : u e1 = .ok q e1) : tOr t u e = .ok (p || q) e1 := by
  cases p
  · exact (tor_f H).trans H2
  · exact tor_t H
theorem ean_t (H : a e = .ok (.bool true) e1) : eAn a b e = b e1 := by unfold eAn bnd; rw [H]
theorem ean_f (H : a e = .ok (.bool false) e1) : eAn a b e = .ok (.bool false) e1 := by unfold eAn bnd; rw [H]
theorem ean_b (H : a e = .ok (.bool p) e1) (H2 : b e1 = .ok (.bool q) e1) : eAn a b e = .ok (.bool (p && q)) e1 := by
  cases p
  · exact ean_f H
  · exact (ean_t H).trans H2
theorem eor_t (H : a e = .ok (.bool true) e1) : eOr a b e = .ok (.bool true) e1 := by unfold eOr bnd; rw [H]
theorem eor_f (H : a e = .ok (.bool false) e1) : eOr a b e = b e1 := by unfold eOr bnd; rw [H]
theorem eor_b (H : a e = .ok (.bool p) e1) (H2 : b e1 = .ok (.bool q) e1) : eOr a b e = .ok (.bool (p || q)) e1 := by
  cases p
  · exact (eor_f H).trans H2
  · exact eor_t H
theorem ent_ok (H : a e = .ok (.bool p) e1) : eNt a e = .ok (.bool (!p)) e1 := by unfold eNt bnd; rw [H]
theorem ch_ok {f k : D → D → Option D} {d : Md D} {w : D} (H : a e = .ok x e) (H2 : b e = .ok y e) (G : f x y = some (.bool p)) (H3 : d e = .ok w e) (G2 : k y w = some (.bool q)) : eCh f k a b d e = .ok (.bool (p && q)) e := by
  unfold eCh bnd; rw [H]; simp only; rw [H2]; simp only [G]
  cases p
  · rfl
  · simp only [Option.bind_some, asBool, lft, if_true]
    rw [H3]
    simp only [G2, Option.bind_some, asBool, Bool.true_and]
theorem tch_ok {f k : D → D → Option D} {d : Md D} {w : D} (H : a e = .ok x e) (H2 : b e = .ok y e) (G : f x y = some (.bool p)) (H3 : d e = .ok w e) (G2 : k y w = some (.bool q)) : tCh f k a b d e = .ok (p && q) e := by
  unfold tCh bnd; rw [H]; simp only; rw [H2]; simp only [G]
  cases p
  · rfl
  · simp only [Option.bind_some, asBool, lft, if_true]
    rw [H3]
    simp only [G2, Option.bind_some, asBool, Bool.true_and]
/-! arguments, calls -/
theorem aaN_ok : aaN e = .ok [] e := rfl
theorem av_ok {A : Md (List AV)} {xs : List AV} (H : m e = .ok x e1) (H2 : A e1 = .ok xs e2) : aaV m A e = .ok (.vl x :: xs) e2 := by unfold aaV bnd; rw [H]; simp only; rw [H2]
theorem av_err {A : Md (List AV)} (H : m e = .err c fs e1) : aaV m A e = .err c fs e1 := by unfold aaV bnd; rw [H]
theorem call_ok {f : Md SV} {A : Md (List AV)} {as : List AV} {r : SV} {svs : List SV} (H : A e = .ok as e1) (hn : as.length = n) (hl : lnOk as = true) (F : f (as.map (svOf e1)) = .ok r svs) : oCallN n f [] A e = .ok r (wb as svs e1) := by
  unfold oCallN bnd; rw [H]; simp only; rw [if_pos (by simpa using hn), if_pos hl]
  simp only [List.map_nil, List.append_nil]
  rw [F]
theorem call_err {f : Md SV} {A : Md (List AV)} {as : List AV} {svs : List SV} (H : A e = .ok as e1) (hn : as.length = n) (hl : lnOk as = true) (F : f (as.map (svOf e1)) = .err c fs svs) : oCallN n f [] A e = .err c fs (wb as svs e1) := by
  unfold oCallN bnd; rw [H]; simp only; rw [if_pos (by simpa using hn), if_pos hl]
  simp only [List.map_nil, List.append_nil]
  rw [F]
theorem c1 {f : Md SV} {r : SV} {s : SV} (H : m e = .ok x e1) (F : f [.d x] = .ok r [s]) : oCallN 1 f [] (aaV m aaN) e = .ok r e1 := call_ok (av_ok H aaN_ok) rfl rfl F
theorem c1e {f : Md SV} {s : SV} (H : m e = .ok x e1) (F : f [.d x] = .err c fs [s]) : oCallN 1 f [] (aaV m aaN) e = .err c fs e1 := call_err (av_ok H aaN_ok) rfl rfl F
theorem c2 {f : Md SV} {r : SV} {s s' : SV} (H : a e = .ok x e1) (H2 : b e1 = .ok y e2) (F : f [.d x, .d y] = .ok r [s, s']) : oCallN 2 f [] (aaV a (aaV b aaN)) e = .ok r e2 := call_ok (av_ok H (av_ok H2 aaN_ok)) rfl rfl F
theorem c2e {f : Md SV} {s s' : SV} (H : a e = .ok x e1) (H2 : b e1 = .ok y e2) (F : f [.d x, .d y] = .err c fs [s, s']) : oCallN 2 f [] (aaV a (aaV b aaN)) e = .err c fs e2 := call_err (av_ok H (av_ok H2 aaN_ok)) rfl rfl F
theorem callA_err {f : Md SV} {A : Md (List AV)} (H : A e = .err c fs e1) : oCallN n f [] A e = .err c fs e1 := by unfold oCallN bnd; rw [H]
/-- a call by keyword of one argument -/
theorem k1 {f : Md SV} {r : SV} {svs : List SV} (H : m e = .ok x e1) (F : f [.d x] = .ok r svs) : oCallK 1 f [] aNil (aCons m aNil) e = .ok r e1 := by
  unfold oCallK bnd
  rw [aN_ok]
  simp only
  rw [cons_ok H aN_ok]
  simp only [List.length_nil, List.length_cons, Nat.zero_add, Nat.add_zero, if_true, List.nil_append, List.append_nil, List.map_cons, List.map_nil]
  rw [F]
theorem k1e {f : Md SV} {svs : List SV} (H : m e = .ok x e1) (F : f [.d x] = .err c fs svs) : oCallK 1 f [] aNil (aCons m aNil) e = .err c fs e1 := by
  unfold oCallK bnd
  rw [aN_ok]
  simp only
  rw [cons_ok H aN_ok]
  simp only [List.length_nil, List.length_cons, Nat.zero_add, Nat.add_zero, if_true, List.nil_append, List.append_nil, List.map_cons, List.map_nil]
  rw [F]
theorem callS_nx {nn : Nat} {G : Sm} {svs : List SV} (H : G (svs ++ List.replicate (nn - svs.length) .unset) = .nx e) : callS nn G svs = .ok (.d .none) (outs svs.length e) := by unfold callS; rw [H]
theorem callS_rt {nn : Nat} {G : Sm} {svs : List SV} (H : G (svs ++ List.replicate (nn - svs.length) .unset) = .rt v e) : callS nn G svs = .ok v (outs svs.length e) := by unfold callS; rw [H]
theorem callS_err {nn : Nat} {G : Sm} {svs : List SV} (H : G (svs ++ List.replicate (nn - svs.length) .unset) = .err c fs e) : callS nn G svs = .err c fs (outs svs.length e) := by unfold callS; rw [H]
end
/-! comprehensions -/
theorem lcR_run {vs : List Nat} {g : Tg} {t : Md Bool} {f : Md D} (P : Env → Prop) (T : D → Bool) (F : D → D) : ∀ (xs : List D),
    (∀ x ∈ xs, ∀ e, P e → ∃ e1 e2, g x (wipeE e vs) = some e1 ∧ t e1 = .ok (T x) e2 ∧ (T x = true → ∃ e3, f e2 = .ok (F x) e3 ∧ P e3) ∧ (T x = false → P e2)) →
    ∀ e, P e → ∃ e', lcR vs g t f xs e = .ok ((xs.filter T).map F) e' ∧ P e'
  | [], _, e, he => ⟨e, rfl, he⟩
  | x :: xs, H, e, he => by
    obtain ⟨e1, e2, h1, h2, h3, h4⟩ := H x (List.mem_cons_self ..) e he
    have ih := lcR_run P T F xs fun y hy => H y (List.mem_cons_of_mem _ hy)
    unfold lcR
    simp only [h1, h2]
    cases hT : T x with
    | true =>
      obtain ⟨e3, h5, h6⟩ := h3 hT
      obtain ⟨e', h7, h8⟩ := ih e3 h6
      refine ⟨e', ?_, h8⟩
      simp only [h5, h7, List.filter_cons, hT, if_true, List.map_cons]
    | false =>
      obtain ⟨e', h7, h8⟩ := ih e2 (h4 hT)
      refine ⟨e', ?_, h8⟩
      simp only [h7, List.filter_cons, hT]
      rfl
/-! texts -/
/-- a text of plain signs, of moderate length -/
structure OkS (n : Nat) (s : Str) : Prop where
  c : ∀ c ∈ s.cps.toList, c < 256
  l : s.length ≤ n
theorem OkS.mono {n m : Nat} {s : Str} (h : OkS n s) (hm : n ≤ m) : OkS m s := ⟨h.c, Nat.le_trans h.l hm⟩
theorem OkS.ok {n : Nat} {s : Str} (h : OkS n s) : PyData.strOk s = true := by
  show s.cps.all (· < 0x110000) = true
  rw [Array.all_eq_true']
  intro c hc
  have := h.c c (Array.mem_toList_iff.mpr hc)
  simp
  omega
theorem shS {s : Str} (h : PyData.strOk s = true) : SeqAt.shaped (.str s) = true := by
  unfold SeqAt.shaped
  have e : PyData.canLay0 (.str s) = true := by simp only [PyData.canLay0]; exact h
  rw [e]
  rfl
def okB (s : Str) : Bool := PyData.strOk s
theorem dEq_str {a b : Str} (ha : PyData.strOk a = true) (hb : PyData.strOk b = true) : dEq (.str a) (.str b) = some (.bool (a == b)) := by
  rfl
theorem dNe_str {a b : Str} (ha : PyData.strOk a = true) (hb : PyData.strOk b = true) : dNe (.str a) (.str b) = some (.bool (!(a == b))) := by
  rfl
theorem dEq_t {a b : Str} {p : Bool} (ha : PyData.strOk a = true) (hb : PyData.strOk b = true) (h : (a == b) = p) : dEq (.str a) (.str b) = some (.bool p) := h ▸ dEq_str ha hb
theorem dNe_t {a b : Str} {p : Bool} (ha : PyData.strOk a = true) (hb : PyData.strOk b = true) (h : (!(a == b)) = p) : dNe (.str a) (.str b) = some (.bool p) := h ▸ dNe_str ha hb
def memS (zs : List Str) (w : Str) : Bool := zs.any fun z => z == w
theorem shAll {zs : List Str} (h : zs.all PyData.strOk = true) : PyData.canLayAll0 (zs.map PyData.str) = true := by
  induction zs with
  | nil => rfl
  | cons z r ih =>
    obtain ⟨h1, h2⟩ := Bool.and_eq_true_iff.mp h
    show (PyData.canLay0 (.str z) && PyData.canLayAll0 (r.map PyData.str)) = true
    rw [ih h2, Bool.and_true]
    simp only [PyData.canLay0]
    exact h1
theorem any_str {zs : List Str} {w : Str} : ((zs.map PyData.str).any fun z => PyData.eqv z (.str w)) = memS zs w := by
  unfold memS
  induction zs with
  | nil => rfl
  | cons z r ih =>
    rw [List.map_cons, List.any_cons, List.any_cons, ih]
    simp only [PyData.eqv]
end VL
namespace VL
open PySem
section
variable {e e1 : Env} {x y z : D} {n : Nat} {c cn m : Str} {fs : List (Str × D)} {fv : List (Str × SV)} {f : Md SV} {A : Md (List AV)} {as : List AV} {r : SV} {svs : List SV} {Fo : Md D} {FL : Md (List D)} {xs : List D}
theorem ms_ok {g : D → List D → Option D} (H : Fo e = .ok x e1) (hs : isStr x = true) {e2 : Env} (H2 : FL e1 = .ok xs e2) (G : g x xs = some z) : eMs g Fo FL e = .ok z e2 := by
  unfold eMs bnd; rw [H]; simp only; rw [if_pos hs, H2]; simp only [G]; rfl
theorem al0 {s s1 : SV} (ho : s.own = true) (H : A (s :: e) = .ok as (s1 :: e1)) (h1 : s1.own = true) : aaL 0 A (s :: e) = .ok (.ln 0 :: as) (s1 :: e1) := by
  unfold aaL bnd
  rw [if_pos (by exact ho), H]
  simp only
  rw [if_pos (by exact h1)]
theorem meth0 (hm : (fv.lookup m).isNone = true) (H : A (.oi cn fv :: e) = .ok as (.oi cn fv :: e)) (hn : as.length + 1 = n) (hl : lnOk (.ln 0 :: as) = true) (F : f (.oi cn fv :: as.map (svOf (.oi cn fv :: e))) = .ok r svs) :
    oMethN n 0 cn m f [] A (.oi cn fv :: e) = .ok r (wb (.ln 0 :: as) svs (.oi cn fv :: e)) := by
  show (if cn = cn ∧ (fv.lookup m).isNone = true then oCallN n f [] (aaL 0 A) (.oi cn fv :: e) else .stuck) = _
  rw [if_pos ⟨rfl, hm⟩]
  exact call_ok (al0 rfl H rfl) hn hl F
theorem meth0e (hm : (fv.lookup m).isNone = true) (H : A (.oi cn fv :: e) = .ok as (.oi cn fv :: e)) (hn : as.length + 1 = n) (hl : lnOk (.ln 0 :: as) = true) (F : f (.oi cn fv :: as.map (svOf (.oi cn fv :: e))) = .err c fs svs) :
    oMethN n 0 cn m f [] A (.oi cn fv :: e) = .err c fs (wb (.ln 0 :: as) svs (.oi cn fv :: e)) := by
  show (if cn = cn ∧ (fv.lookup m).isNone = true then oCallN n f [] (aaL 0 A) (.oi cn fv :: e) else .stuck) = _
  rw [if_pos ⟨rfl, hm⟩]
  exact call_err (al0 rfl H rfl) hn hl F
theorem dIn_tup {w : Str} {zs : List Str} (hw : PyData.strOk w = true) (hz : SeqAt.shaped (.tuple (zs.map PyData.str)) = true) : dIn (.str w) (.tuple (zs.map PyData.str)) = some (.bool (memS zs w)) := by
  show (if SeqAt.shaped (.str w) = true ∧ SeqAt.shaped (.tuple (zs.map PyData.str)) = true then some (PyData.bool ((zs.map PyData.str).any fun z => PyData.eqv z (.str w))) else none) = _
  rw [if_pos ⟨shS hw, hz⟩, any_str]
theorem dIn_lst {w : Str} {zs : List Str} (hw : PyData.strOk w = true) (hz : SeqAt.shaped (.list (zs.map PyData.str)) = true) : dIn (.str w) (.list (zs.map PyData.str)) = some (.bool (memS zs w)) := by
  show (if SeqAt.shaped (.str w) = true ∧ SeqAt.shaped (.list (zs.map PyData.str)) = true then some (PyData.bool ((zs.map PyData.str).any fun z => PyData.eqv z (.str w))) else none) = _
  rw [if_pos ⟨shS hw, hz⟩, any_str]
theorem dNotIn_tup {w : Str} {zs : List Str} (hw : PyData.strOk w = true) (hz : SeqAt.shaped (.tuple (zs.map PyData.str)) = true) : dNotIn (.str w) (.tuple (zs.map PyData.str)) = some (.bool (!memS zs w)) := by
  show (if SeqAt.shaped (.str w) = true ∧ SeqAt.shaped (.tuple (zs.map PyData.str)) = true then some (PyData.bool (!(zs.map PyData.str).any fun z => PyData.eqv z (.str w))) else none) = _
  rw [if_pos ⟨shS hw, hz⟩, any_str]
end
end VL
namespace VL
open PySem
theorem depth_strs : ∀ zs : List Str, PyData.depthAll (zs.map PyData.str) = 0
  | [] => by simp only [List.map_nil, PyData.depthAll]
  | z :: r => by simp only [List.map_cons, PyData.depthAll, PyData.depth, depth_strs r]; rfl
theorem shL {zs : List Str} (h : zs.all PyData.strOk = true) : SeqAt.shaped (.list (zs.map PyData.str)) = true := by
  unfold SeqAt.shaped
  have e : PyData.canLay0 (.list (zs.map PyData.str)) = true := by simp only [PyData.canLay0]; exact shAll h
  have d : PyData.depth (.list (zs.map PyData.str)) = 1 := by simp only [PyData.depth, depth_strs]
  rw [e, d]
  rfl
theorem shT {zs : List Str} (h : zs.all PyData.strOk = true) : SeqAt.shaped (.tuple (zs.map PyData.str)) = true := by
  unfold SeqAt.shaped
  have e : PyData.canLay0 (.tuple (zs.map PyData.str)) = true := by simp only [PyData.canLay0]; exact shAll h
  have d : PyData.depth (.tuple (zs.map PyData.str)) = 1 := by simp only [PyData.depth, depth_strs]
  rw [e, d]
  rfl
section
variable {e e1 e2 : Env} {it : Md (List D)} {vs : List Nat} {g : Tg} {t : Md Bool} {f : Md D} {xs ys : List D}
theorem lc_ok (H : it e = .ok xs e1) (ho : ownAt e1 vs = false) (R : lcR vs g t f xs e1 = .ok ys e2) : eLc it vs g t f e = .ok (.list ys) (restE e1 e2 vs) := by
  unfold eLc bnd; rw [H]; simp only; rw [if_neg (by rw [ho]; exact Bool.false_ne_true), R]
/-- the signs of a text -/
def sgn (w : Str) : List D := w.cps.toList.map fun c => PyData.str ⟨#[c]⟩
theorem it_sgn {F : Md D} {w : Str} (H : F e = .ok (.str w) e1) (hl : w.length ≤ sizeLine) : iOf itS F e = .ok (sgn w) e1 := by
  unfold iOf bnd; rw [H]
  show (lft (if w.length ≤ sizeLine then some (sgn w) else none) : Md (List D)) e1 = _
  rw [if_pos hl]
  rfl
end
/-- all signs of w among those of z -/
def allIn (z w : Str) : Bool := w.cps.toList.all fun c => decide (c ∈ z.cps.toList)
theorem sIn_one (c : Nat) (z : Str) : sIn ⟨#[c]⟩ z = decide (c ∈ z.cps.toList) := rfl
/-- all([sign in Z for sign in w]) in slots i (the text), j (the sign) of two -/
theorem lc_all {w z : Str} {v : SV} (hv : v.own = false) (hl : w.length ≤ sizeLine) :
    eLc (iOf itS (eV 0)) [1] (gN 1) tYs (eOp2 dIn (eV 1) (eK (.str z))) [.d (.str w), v] = .ok (.list ((w.cps.toList.map fun c => decide (c ∈ z.cps.toList)).map PyData.bool)) [.d (.str w), v] := by
  obtain ⟨e', h1, ⟨u, rfl⟩⟩ := lcR_run (vs := [1]) (g := gN 1) (t := tYs) (f := eOp2 dIn (eV 1) (eK (.str z))) (fun e => ∃ u, e = [.d (.str w), u]) (fun _ => true) (fun x => (dIn x (.str z)).getD .none) (sgn w) (fun x hx e he => by
    obtain ⟨u, rfl⟩ := he
    obtain ⟨c, hc, rfl⟩ := List.mem_map.mp hx
    exact ⟨_, _, rfl, rfl, fun _ => ⟨_, rfl, _, rfl⟩, fun h => absurd h (by decide)⟩) [.d (.str w), v] ⟨v, rfl⟩
  refine (lc_ok (it_sgn rfl hl) (by show ((v.own || false) = false); rw [hv]; rfl) h1).trans ?_
  have e : ((sgn w).filter fun _ => true).map (fun x => (dIn x (.str z)).getD .none) = (w.cps.toList.map fun c => decide (c ∈ z.cps.toList)).map PyData.bool := by
    rw [List.filter_eq_self.mpr (fun _ _ => rfl)]
    unfold sgn
    rw [List.map_map, List.map_map]
    rfl
  rw [e]
  rfl
theorem unBools_map : ∀ bs : List Bool, unBools (bs.map PyData.bool) = some bs
  | [] => rfl
  | b :: r => by
    show (unBools (r.map PyData.bool)).map (b :: ·) = _
    rw [unBools_map r]; rfl
theorem dAll_map {w z : Str} : dAll [.list ((w.cps.toList.map fun c => decide (c ∈ z.cps.toList)).map PyData.bool)] = some (.bool (allIn z w)) := by
  show (unBools _).map (fun bs => PyData.bool (bs.all id)) = _
  rw [unBools_map]
  show some (PyData.bool _) = _
  rw [List.all_map]
  rfl
/-- the signs of w that are not among z's -/
def notIn (z w : Str) : List Nat := w.cps.toList.filter fun c => !decide (c ∈ z.cps.toList)
theorem notIn_nil {z w : Str} : (notIn z w).isEmpty = allIn z w := by
  unfold notIn allIn
  induction w.cps.toList with
  | nil => rfl
  | cons c r ih =>
    rw [List.filter_cons, List.all_cons]
    cases h : decide (c ∈ z.cps.toList) with
    | true => simpa using ih
    | false => rfl
/-- a truth that is there and true -/
def asT : Option D → Bool
  | some (.bool b) => b
  | _ => false
theorem notIn_D {z w : Str} : ((sgn w).filter fun x => asT (dNotIn x (.str z))) = ((notIn z w).map fun c => (⟨#[c]⟩ : Str)).map PyData.str := by
  unfold sgn notIn
  induction w.cps.toList with
  | nil => rfl
  | cons c r ih =>
    have e : asT (dNotIn (.str ⟨#[c]⟩) (.str z)) = !decide (c ∈ z.cps.toList) := rfl
    rw [List.map_cons, List.filter_cons, e, ih, List.filter_cons]
    cases decide (c ∈ z.cps.toList) <;> rfl
theorem notIn_ok {z w : Str} (h : PyData.strOk w = true) : ((notIn z w).map fun c => (⟨#[c]⟩ : Str)).all PyData.strOk = true := by
  rw [List.all_map, List.all_eq_true]
  intro c hc
  have hm := (List.mem_filter.mp hc).1
  have h : w.cps.all (· < 0x110000) = true := h
  rw [Array.all_eq_true'] at h
  have := h c (Array.mem_toList_iff.mp hm)
  show (#[c] : Array Nat).all (· < 0x110000) = true
  simpa using this
theorem lc_cong {z w : Str} (h : PyData.strOk w = true) : dEq (.list (((notIn z w).map fun c => (⟨#[c]⟩ : Str)).map PyData.str)) (.list []) = some (.bool (allIn z w)) ∧ dNe (.list (((notIn z w).map fun c => (⟨#[c]⟩ : Str)).map PyData.str)) (.list []) = some (.bool (!allIn z w)) := by
  have a := shL (notIn_ok (z := z) h)
  have b : SeqAt.shaped (.list []) = true := by decide +kernel
  have c : PyData.eqv (.list (((notIn z w).map fun c => (⟨#[c]⟩ : Str)).map PyData.str)) (.list []) = allIn z w := by
    rw [← notIn_nil]
    simp only [PyData.eqv]
    cases notIn z w <;> rfl
  refine ⟨?_, ?_⟩
  · show (if SeqAt.shaped (.list (((notIn z w).map fun c => (⟨#[c]⟩ : Str)).map PyData.str)) = true ∧ SeqAt.shaped (.list []) = true then some (PyData.bool (PyData.eqv (.list (((notIn z w).map fun c => (⟨#[c]⟩ : Str)).map PyData.str)) (.list []))) else none) = _
    rw [if_pos ⟨a, b⟩, c]
  · show (if SeqAt.shaped (.list (((notIn z w).map fun c => (⟨#[c]⟩ : Str)).map PyData.str)) = true ∧ SeqAt.shaped (.list []) = true then some (PyData.bool (!PyData.eqv (.list (((notIn z w).map fun c => (⟨#[c]⟩ : Str)).map PyData.str)) (.list []))) else none) = _
    rw [if_pos ⟨a, b⟩, c]
end VL
namespace VL
open PySem
theorem sub_str {x : Str} (h : PyData.strOk x = true) (i j : Nat) : PyData.strOk (Builtin.Str.strSub x i j) = true := by
  have h : x.cps.all (· < 0x110000) = true := h
  rw [Array.all_eq_true'] at h
  show (x.cps.extract i j).all (· < 0x110000) = true
  rw [Array.all_eq_true']
  intro c hc
  obtain ⟨k, hk, e⟩ := Array.mem_extract_iff_getElem.mp hc
  exact h c (e ▸ Array.getElem_mem _)
theorem partsFrom_str {x : Str} (h : PyData.strOk x = true) (w : Nat) : ∀ (cuts : List Nat) (a : Nat), ∀ p ∈ StrLaws.partsFrom x w a cuts, PyData.strOk p = true
  | [], a, p, hp => by rw [List.mem_singleton.mp hp]; exact sub_str h _ _
  | c :: r, a, p, hp => by
    rcases List.mem_cons.mp hp with rfl | hp
    · exact sub_str h _ _
    · exact partsFrom_str h w r _ p hp
/-- the parts of a text are texts of its signs -/
theorem spl_str {s y w : Str} (h : PyData.strOk s = true) (hw : w ∈ Txt.split s y) : PyData.strOk w = true := by
  unfold Txt.split at hw
  split at hw
  · rw [List.mem_singleton.mp hw]; exact h
  · split at hw
    · rw [List.mem_singleton.mp hw]; exact h
    · rw [StrLaws.partsBetween_eq] at hw
      exact partsFrom_str h _ _ _ w hw
end VL
namespace VL
open PySem
theorem dget_ok {i : Nat} {F : Md D} {e0 e1 : Env} {kds kds' : List (Str × D)} {k : Str} {x : D} (h0 : e0[i]? = some (.od kds)) (H : F e0 = .ok (.str k) e1) (h1 : e1[i]? = some (.od kds')) (hg : getS kds' k = some x) : eDget i F e0 = .ok x e1 := by
  unfold eDget isOd
  rw [h0]
  simp only [if_true]
  refine (bnd_ok H).trans ?_
  simp only [h1, hg]
  rfl
end VL
namespace VL
open PySem
theorem rgI_zero (n : Nat) : rgI 0 n = (List.range' 0 n).map fun i : Nat => PyData.int (i : Int) := by
  unfold rgI
  rw [List.range_eq_range']
  refine List.map_congr_left fun i _ => ?_
  rw [Int.zero_add]
theorem itR1_ok {m : Md D} {e e1 : Env} {n : Nat} (H : m e = .ok (.int (n : Nat)) e1) (hn : n ≤ 1000000) : iOfL itR1 (aCons m aNil) e = .ok ((List.range' 0 n).map fun i : Nat => PyData.int (i : Int)) e1 := by
  unfold iOfL
  refine (bnd_ok (cons_ok H aN_ok)).trans ?_
  show (lft (if -1000000 ≤ (n : Int) ∧ (n : Int) ≤ 1000000 then some (rgI 0 (n : Int).toNat) else none) : Md (List D)) e1 = _
  rw [if_pos ⟨by omega, by omega⟩, Int.toNat_natCast, rgI_zero]
  rfl
/-- an item of a list, of a tuple -/
theorem dIx_l {ds : List D} {k : Nat} {x : D} (h : ds[k]? = some x) : dIx (.list ds) (.int (k : Nat)) = some x := by
  have hk := (List.getElem?_eq_some_iff.mp h).1
  show L2.atI ds (k : Nat) = _
  unfold L2.atI L2.ixN
  rw [if_pos (by omega), if_pos (by omega)]
  simp [h]
theorem dIx_t {ds : List D} {k : Nat} {x : D} (h : ds[k]? = some x) : dIx (.tuple ds) (.int (k : Nat)) = some x := dIx_l h
theorem for_ok {it : Md (List D)} {g : Tg} {G : Sm} {e e1 : Env} {xs : List D} (H : it e = .ok xs e1) : sFor it g G e = forR g G xs e1 := by unfold sFor; exact sB_ok H
theorem for_nx {g : Tg} {G : Sm} {e e1 e2 : Env} {x : D} {xs : List D} (h1 : g x e = some e1) (h2 : G e1 = .nx e2) : forR g G (x :: xs) e = forR g G xs e2 := by
  show (match g x e with | none => SR.stuck | some e1 => match G e1 with | .nx e2 => forR g G xs e2 | .ct e2 => forR g G xs e2 | .bk e2 => .nx e2 | .rt v e2 => .rt v e2 | .err c fs e2 => .err c fs e2 | .stuck => .stuck) = _
  rw [h1]; simp only [h2]
theorem for_rt {g : Tg} {G : Sm} {e e1 e2 : Env} {x : D} {xs : List D} {v : SV} (h1 : g x e = some e1) (h2 : G e1 = .rt v e2) : forR g G (x :: xs) e = .rt v e2 := by
  show (match g x e with | none => SR.stuck | some e1 => match G e1 with | .nx e2 => forR g G xs e2 | .ct e2 => forR g G xs e2 | .bk e2 => .nx e2 | .rt v e2 => .rt v e2 | .err c fs e2 => .err c fs e2 | .stuck => .stuck) = _
  rw [h1]; simp only [h2]
end VL
namespace VL
open PySem
theorem dspix_ok {FK : Md (List (Str × D))} {Fk : Md D} {e e1 e2 : Env} {kds : List (Str × D)} {x : Str} {v : D} (H : FK e = .ok kds e1) (hn : kds.length ≤ 15) (H2 : Fk e1 = .ok (.str x) e2) (hg : getS (mergeS [] kds) x = some v) : eDspIx FK Fk e = .ok v e2 := by
  unfold eDspIx
  refine (bnd_ok H).trans ?_
  rw [if_pos hn]
  refine (bnd_ok H2).trans ?_
  show (lft (getS (mergeS [] kds) x) : Md D) _ = _
  rw [hg]
  rfl
end VL
namespace VL
open PySem
theorem shI {i : Int} : SeqAt.shaped (.int i) = true := by
  unfold SeqAt.shaped
  simp only [PyData.canLay0, PyData.depth]
  rfl
theorem dEq_int {i j : Int} : dEq (.int i) (.int j) = some (.bool (i == j)) := by
  show (if SeqAt.shaped (.int i) = true ∧ SeqAt.shaped (.int j) = true then some (PyData.bool (PyData.eqv (.int i) (.int j))) else none) = _
  rw [if_pos ⟨shI, shI⟩]
  simp only [PyData.eqv]
theorem dNe_int {i j : Int} : dNe (.int i) (.int j) = some (.bool (!(i == j))) := by
  show (if SeqAt.shaped (.int i) = true ∧ SeqAt.shaped (.int j) = true then some (PyData.bool (!PyData.eqv (.int i) (.int j))) else none) = _
  rw [if_pos ⟨shI, shI⟩]
  simp only [PyData.eqv]
theorem js_nil {acc : Str} {e : Env} : eJs [] acc e = .ok (.str acc) e := rfl
theorem js_cons {F : Md D} {r : List (Md D)} {acc y : Str} {e e1 : Env} (H : F e = .ok (.str y) e1) (hl : (acc ++ y).length ≤ sizeLine) : eJs (F :: r) acc e = eJs r (acc ++ y) e1 := by
  show bnd F _ e = _
  refine (bnd_ok H).trans ?_
  simp only
  rw [if_pos hl]
end VL
namespace VL
open PySem
/-! repr: x can be shown in n signs, it is k deep -/
structure Rep (x : D) (n k : Nat) : Prop where
  sh : PyData.showable x = true
  hd : x.hasDict = false
  dp : x.depth ≤ k
  ln : x.shown.length ≤ n
structure Reps (xs : List D) (n k : Nat) : Prop where
  sh : PyData.showableAll xs = true
  hd : PyData.hasDictAll xs = false
  dp : PyData.depthAll xs ≤ k
  ln : ((PyData.shownAll xs).map (·.length)).sum ≤ n
theorem lenA (a b : Str) : (a ++ b).length = a.length + b.length := by
  rw [TL.len_tl, TL.len_tl, TL.len_tl, TL.tl_append, List.length_append]
theorem Reps.nil {k : Nat} : Reps [] 0 k := ⟨by simp only [PyData.showableAll], by simp only [PyData.hasDictAll], by simp only [PyData.depthAll]; omega, by simp only [PyData.shownAll]; exact Nat.le_refl _⟩
theorem Reps.cons {x : D} {xs : List D} {a b k : Nat} (h : Rep x a k) (t : Reps xs b k) : Reps (x :: xs) (a + b) k := by
  refine ⟨?_, ?_, ?_, ?_⟩
  · simp only [PyData.showableAll, h.sh, t.sh, Bool.and_self]
  · simp only [PyData.hasDictAll, h.hd, t.hd, Bool.or_self]
  · simp only [PyData.depthAll]; exact Nat.max_le.mpr ⟨h.dp, t.dp⟩
  · simp only [PyData.shownAll, List.map_cons, List.sum_cons]; exact Nat.add_le_add h.ln t.ln
theorem shownAll_length : ∀ xs : List D, (PyData.shownAll xs).length = xs.length
  | [] => by simp only [PyData.shownAll, List.length_nil]
  | x :: xs => by simp only [PyData.shownAll, List.length_cons, shownAll_length xs]
theorem textFrom_le : ∀ (ts : List Str) (k : Nat) (acc : Str), (textFrom k acc ts).length ≤ acc.length + (ts.map (·.length)).sum + 2 * ts.length
  | [], k, acc => by show acc.length ≤ _; omega
  | t :: r, k, acc => by
    have ih := textFrom_le r (k + 1) (acc ++ (if k > 0 then ", " else "" : String) ++ t)
    have e : (acc ++ (if k > 0 then ", " else "" : String) ++ t).length ≤ acc.length + 2 + t.length := by
      rw [lenA, lenA]
      have : ((if k > 0 then ", " else "" : String) : Str).length ≤ 2 := by split <;> decide +kernel
      omega
    show (textFrom (k + 1) _ r).length ≤ _
    simp only [List.map_cons, List.sum_cons, List.length_cons]
    omega
theorem Rep.tup {xs : List D} {n k : Nat} (h : Reps xs n k) : Rep (.tuple xs) (n + 2 * xs.length + 3) (k + 1) := by
  refine ⟨by simp only [PyData.showable]; exact h.sh, by simp only [PyData.hasDict]; exact h.hd, by simp only [PyData.depth]; exact Nat.add_le_add_right h.dp 1, ?_⟩
  simp only [PyData.shown]
  unfold tupleText
  have a := StrLaws.join_length_le ", " (PyData.shownAll xs)
  rw [shownAll_length] at a
  have b : ((", " : Str)).length = 2 := by decide +kernel
  rw [b] at a
  have c : (("(" : Str)).length = 1 := by decide +kernel
  have d : ((if (PyData.shownAll xs).length == 1 then ",)" else ")" : String) : Str).length ≤ 2 := by split <;> decide +kernel
  have e := h.ln
  rw [lenA, lenA]
  omega
theorem Rep.lst {xs : List D} {n k : Nat} (h : Reps xs n k) : Rep (.list xs) (n + 2 * xs.length + 3) (k + 1) := by
  refine ⟨by simp only [PyData.showable]; exact h.sh, by simp only [PyData.hasDict]; exact h.hd, by simp only [PyData.depth]; exact Nat.add_le_add_right h.dp 1, ?_⟩
  simp only [PyData.shown]
  unfold listText
  have a := textFrom_le (PyData.shownAll xs) 0 "["
  rw [shownAll_length] at a
  have b : (("[" : Str)).length = 1 := by decide +kernel
  have c : (("]" : Str)).length = 1 := by decide +kernel
  have e := h.ln
  rw [lenA]
  omega
theorem Rep.str {x : Str} {k : Nat} (h : PyData.strOk x = true) : Rep (.str x) (10 * x.length + 2) k := by
  refine ⟨by simp only [PyData.showable], by simp only [PyData.hasDict], by simp only [PyData.depth]; omega, ?_⟩
  simp only [PyData.shown]
  refine StrLaws.reprText_len x fun c hc => ?_
  have h : x.cps.all (· < 0x110000) = true := h
  rw [Array.all_eq_true'] at h
  have := h c (Array.mem_toList_iff.mp hc)
  simp at this
  omega
theorem Rep.mono {x : D} {n m k j : Nat} (h : Rep x n k) (hn : n ≤ m) (hk : k ≤ j) : Rep x m j := ⟨h.sh, h.hd, Nat.le_trans h.dp hk, Nat.le_trans h.ln hn⟩
theorem dRepr_ok {x : D} {n k : Nat} (h : Rep x n k) (hn : n ≤ sizeLine) (hk : k ≤ 60) : dRepr [x] = some (.str x.shown) := if_pos ⟨h.sh, h.hd, Nat.le_trans h.dp hk, Nat.le_trans h.ln hn⟩
end VL
namespace VL
open PySem
section
variable {e e1 e2 : Env} {i : Nat} {Fv Fi : Md D} {v : D} {k : Str} {kds kds2 : List (Str × D)}
theorem dput_ok (H : Fv e = .ok v e1) (h0 : e1[i]? = some (.od kds)) (H2 : Fi e1 = .ok (.str k) e2) (h1 : e2[i]? = some (.od kds2)) (hl : kds2.length < sizeLine) : sDput i Fv Fi e = .nx (e2.set i (.od (putS kds2 k v))) := by
  unfold sDput
  refine (sB_ok H).trans ?_
  rw [if_pos (by unfold isOd; rw [h0])]
  refine (sB_ok H2).trans ?_
  simp only [h1]
  exact if_pos hl
theorem par3_ok {a b c : Nat} {F : Md (List D)} {x y z : D} (H : F e = .ok [x, y, z] e1) : sPar3 a b c F e = .nx (((e1.set a (.d x)).set b (.d y)).set c (.d z)) := by
  unfold sPar3; exact sB_ok H
theorem par_ok {a b : Nat} {F : Md (List D)} {x y : D} (H : F e = .ok [x, y] e1) : sPar a b F e = .nx ((e1.set a (.d x)).set b (.d y)) := by
  unfold sPar; exact sB_ok H
end
theorem log_small {n : Nat} (h : n < 2 ^ 200) : n.log2 < 201 := by
  by_cases h0 : n = 0
  · subst h0; decide
  · have := (Nat.log2_lt h0).mpr h; omega
theorem mulI {i j : Int} (hi : i.natAbs < 2 ^ 200) (hj : j.natAbs < 2 ^ 200) : dMul (.int i) (.int j) = some (.int (i * j)) := by
  have a := log_small hi
  have b := log_small hj
  exact if_pos (by omega)
theorem modI {i j : Int} (hj : 0 < j) : ∃ r, dMod (.int i) (.int j) = some (.int r) ∧ 0 ≤ r ∧ r < j := by
  refine ⟨i.fmod j, if_pos (by omega), ?_, ?_⟩
  · rw [Int.fmod_eq_emod_of_nonneg _ (by omega)]; exact Int.emod_nonneg _ (by omega)
  · rw [Int.fmod_eq_emod_of_nonneg _ (by omega)]; exact Int.emod_lt_of_pos _ hj
theorem divI {i j : Int} (hj : 0 < j) (h2 : j < 1000000000) : ∃ r, dFdiv (.int i) (.int j) = some (.int r) := ⟨_, if_pos ⟨by omega, by omega⟩⟩
theorem depth_ints : ∀ zs : List Int, PyData.depthAll (zs.map PyData.int) = 0
  | [] => by simp only [List.map_nil, PyData.depthAll]
  | z :: r => by simp only [List.map_cons, PyData.depthAll, PyData.depth, depth_ints r]; rfl
theorem canLay_ints : ∀ zs : List Int, PyData.canLayAll0 (zs.map PyData.int) = true
  | [] => by simp only [List.map_nil, PyData.canLayAll0]
  | z :: r => by simp only [List.map_cons, PyData.canLayAll0, PyData.canLay0, canLay_ints r]; rfl
theorem shIs {zs : List Int} : SeqAt.shaped (.list (zs.map PyData.int)) = true := by
  unfold SeqAt.shaped
  have e : PyData.canLay0 (.list (zs.map PyData.int)) = true := by simp only [PyData.canLay0]; exact canLay_ints zs
  have d : PyData.depth (.list (zs.map PyData.int)) = 1 := by simp only [PyData.depth, depth_ints]
  rw [e, d]
  rfl
/-! the feed of a law -/
abbrev fdS (cs : List Int) (sp lf dr : Int) : SV := .od [("cells", .list (cs.map .int)), ("spot", .int sp), ("left", .int lf), ("drawn", .int dr)]
/-- a feed from which at most n were drawn -/
def Feed (n : Nat) (s : SV) : Prop := ∃ cs sp lf dr, s = fdS cs sp lf dr ∧ 0 ≤ dr ∧ dr ≤ (n : Nat) ∧ cs.length ≤ 63
theorem Feed.own {n : Nat} {s : SV} (h : Feed n s) : s.own = true := by
  obtain ⟨_, _, _, _, rfl, _⟩ := h
  rfl
theorem Feed.mono {n m : Nat} {s : SV} (h : Feed n s) (hm : n ≤ m) : Feed m s := by
  obtain ⟨cs, sp, lf, dr, e, h1, h2, h3⟩ := h
  exact ⟨cs, sp, lf, dr, e, h1, by omega, h3⟩
/-- what a draw promises -/
def DrawOk (N : Nat) (f : Md SV) : Prop := ∀ (n : Nat) (s : SV) (many : Nat), n ≤ N → Feed n s → 0 < many → many < 1000000000 → ∃ (r : Nat) (s' : SV), f [s, .d (.int (many : Nat))] = .ok (.d (.int (r : Nat))) [s', .unset] ∧ r < many ∧ Feed (n + 1) s'
end VL
namespace VL
open PySem
section
variable {e e1 : Env} {i : Nat} {s s1 s2 : SV} {f : Md SV} {r y : SV} {m : Md D} {x : D}
theorem getD_of (h : e[i]? = some s) : e.getD i .unset = s := by rw [List.getD_eq_getElem?_getD, h]; rfl
theorem al_ok {A : Md (List AV)} {as : List AV} (h : e[i]? = some s) (ho : s.own = true) (H : A e = .ok as e1) (h1 : e1[i]? = some s1) (ho1 : s1.own = true) : aaL i A e = .ok (.ln i :: as) e1 := by
  unfold aaL
  rw [if_pos (by rw [getD_of h]; exact ho)]
  refine (bnd_ok H).trans ?_
  exact if_pos (by rw [getD_of h1]; exact ho1)
theorem lend1 (h : e[i]? = some s) (ho : s.own = true) (F : f [s] = .ok r [s1]) (ho1 : s1.own = true) : oCallN 1 f [] (aaL i aaN) e = .ok r (e.set i s1) := by
  refine (call_ok (as := [.ln i]) (al_ok h ho aaN_ok h ho) rfl rfl (svs := [s1]) (r := r) ?_).trans ?_
  · show f [e.getD i .unset] = _
    rw [getD_of h]
    exact F
  · show Res.ok r (e.set i (if s1.own = true then s1 else .unset)) = _
    rw [if_pos ho1]
theorem lend2 (h : e[i]? = some s) (ho : s.own = true) (H : m e = .ok x e1) (h1 : e1[i]? = some s1) (ho1 : s1.own = true) (F : f [s1, .d x] = .ok r [s2, y]) (ho2 : s2.own = true) : oCallN 2 f [] (aaL i (aaV m aaN)) e = .ok r (e1.set i s2) := by
  refine (call_ok (as := [.ln i, .vl x]) (al_ok h ho (av_ok H aaN_ok) h1 ho1) rfl rfl (svs := [s2, y]) (r := r) ?_).trans ?_
  · show f [e1.getD i .unset, .d x] = _
    rw [getD_of h1]
    exact F
  · show Res.ok r (e1.set i (if s2.own = true then s2 else .unset)) = _
    rw [if_pos ho2]
end
/-- what a choice among some promises -/
def AnyOk (N : Nat) (f : Md SV) : Prop := ∀ (n : Nat) (s : SV) (ds : List D), n ≤ N → Feed n s → ds ≠ [] → ds.length < 1000000 → ∃ (x : D) (s' : SV), f [s, .d (.list ds)] = .ok (.d x) [s', .unset] ∧ x ∈ ds ∧ Feed (n + 1) s'
theorem any_of {N : Nat} {f : Md SV} (h : DrawOk N f) : AnyOk N (callS 2 (sRt (oD (eOp2 dIx (eV 1) (oToD (oCallN 2 f [] (aaL 0 (aaV (eL dLen (aCons (eV 1) aNil)) aaN)))))))) := by
  intro n s ds hn hf hne hl
  have hp : 0 < ds.length := List.length_pos_iff.mpr hne
  obtain ⟨r, s', h1, h2, h3⟩ := h n s ds.length hn hf hp (by omega)
  refine ⟨ds[r], s', ?_, List.getElem_mem _, h3⟩
  have hlen : eL dLen (aCons (eV 1) aNil) [s, .d (.list ds)] = .ok (.int (ds.length : Nat)) [s, .d (.list ds)] := eL1 (x := .list ds) rfl rfl
  have hx : eOp2 dIx (eV 1) (oToD (oCallN 2 f [] (aaL 0 (aaV (eL dLen (aCons (eV 1) aNil)) aaN)))) [s, .d (.list ds)] = .ok ds[r] [s', .d (.list ds)] := op2_ok (x := .list ds) (y := .int (r : Nat)) rfl (toD_ok (lend2 (i := 0) (e := [s, .d (.list ds)]) rfl hf.own hlen rfl hf.own h1 h3.own)) (dIx_l (List.getElem?_eq_getElem h2))
  refine (callS_rt (nn := 2) (svs := [s, .d (.list ds)]) (rtD hx)).trans ?_
  show Res.ok _ [if s'.own = true then s' else .unset, .unset] = _
  rw [if_pos h3.own]
theorem lcR_all {vs : List Nat} {g : Tg} {f : Md D} (P : Env → Prop) (R : D → Prop) : ∀ (xs : List D),
    (∀ x ∈ xs, ∀ e, P e → ∃ e1 e3 y, g x (wipeE e vs) = some e1 ∧ f e1 = .ok y e3 ∧ P e3 ∧ R y) →
    ∀ e, P e → ∃ ys e', lcR vs g tYs f xs e = .ok ys e' ∧ P e' ∧ (∀ y ∈ ys, R y) ∧ ys.length = xs.length
  | [], _, e, he => ⟨[], e, rfl, he, (fun _ h => nomatch h), rfl⟩
  | x :: xs, H, e, he => by
    obtain ⟨e1, e3, y, h1, h2, h3, h4⟩ := H x (List.mem_cons_self ..) e he
    obtain ⟨ys, e', h5, h6, h7, h8⟩ := lcR_all P R xs (fun z hz => H z (List.mem_cons_of_mem _ hz)) e3 h3
    refine ⟨y :: ys, e', ?_, h6, fun z hz => ?_, by rw [List.length_cons, List.length_cons, h8]⟩
    · unfold lcR
      simp only [h1, tYs, h2, h5]
    · rcases List.mem_cons.mp hz with rfl | hz
      · exact h4
      · exact h7 z hz
theorem strs_of {p : Str → Prop} : ∀ ys : List D, (∀ y ∈ ys, ∃ z, y = .str z ∧ p z) → ∃ zs : List Str, ys = zs.map .str ∧ ∀ z ∈ zs, p z
  | [], _ => ⟨[], rfl, fun _ h => nomatch h⟩
  | y :: ys, h => by
    obtain ⟨z, rfl, hz⟩ := h y (List.mem_cons_self ..)
    obtain ⟨zs, rfl, hzs⟩ := strs_of ys fun y hy => h y (List.mem_cons_of_mem _ hy)
    refine ⟨z :: zs, rfl, fun u hu => ?_⟩
    rcases List.mem_cons.mp hu with rfl | hu
    · exact hz
    · exact hzs u hu
end VL
namespace VL
open PySem
section
variable {e e1 : Env} {i n N : Nat} {s : SV} {f : Md SV} {m : Md D}
theorem draw_at (h : DrawOk N f) (hi : e[i]? = some s) (hf : Feed n s) (hn : n ≤ N) {many : Nat} (H : m e = .ok (.int (many : Nat)) e) (h0 : 0 < many) (h1 : many < 1000000000) : ∃ (r : Nat) (s' : SV), oToD (oCallN 2 f [] (aaL i (aaV m aaN))) e = .ok (.int (r : Nat)) (e.set i s') ∧ r < many ∧ Feed (n + 1) s' := by
  obtain ⟨r, s', a, b, c⟩ := h n s many hn hf h0 h1
  exact ⟨r, s', toD_ok (lend2 hi hf.own H hi hf.own a c.own), b, c⟩
theorem any_at (h : AnyOk N f) (hi : e[i]? = some s) (hf : Feed n s) (hn : n ≤ N) {ds : List D} (H : m e = .ok (.list ds) e) (h0 : ds ≠ []) (h1 : ds.length < 1000000) : ∃ (x : D) (s' : SV), oToD (oCallN 2 f [] (aaL i (aaV m aaN))) e = .ok x (e.set i s') ∧ x ∈ ds ∧ Feed (n + 1) s' := by
  obtain ⟨x, s', a, b, c⟩ := h n s ds hn hf h0 h1
  exact ⟨x, s', toD_ok (lend2 hi hf.own H hi hf.own a c.own), b, c⟩
end
theorem cutG_map {α β : Type} (g : α → β) (xs : List α) (lo hi : Option Int) : cutG (xs.map g) lo hi = (cutG xs lo hi).map g := by
  unfold cutG
  rw [List.length_map, List.map_take, List.map_drop]
theorem cutG_len {α : Type} (xs : List α) (lo hi : Option Int) : (cutG xs lo hi).length ≤ xs.length := by
  unfold cutG
  rw [List.length_take, List.length_drop]
  omega
theorem cutG_mem {α : Type} {xs : List α} {lo hi : Option Int} {x : α} (h : x ∈ cutG xs lo hi) : x ∈ xs := List.mem_of_mem_drop (List.mem_of_mem_take h)
end VL
namespace VL
open PySem
theorem for_all {g : Tg} {G : Sm} (P : Nat → Env → Prop) : ∀ (xs : List D) (k : Nat), (∀ x ∈ xs, ∀ k e, P k e → ∃ e1 e2, g x e = some e1 ∧ G e1 = .nx e2 ∧ P (k + 1) e2) → ∀ e, P k e → ∃ e', forR g G xs e = .nx e' ∧ P (k + xs.length) e'
  | [], k, _, e, he => ⟨e, rfl, he⟩
  | x :: xs, k, H, e, he => by
    obtain ⟨e1, e2, h1, h2, h3⟩ := H x (List.mem_cons_self ..) k e he
    obtain ⟨e', h4, h5⟩ := for_all P xs (k + 1) (fun y hy => H y (List.mem_cons_of_mem _ hy)) e2 h3
    refine ⟨e', (for_nx h1 h2).trans h4, ?_⟩
    rw [List.length_cons, show k + (xs.length + 1) = k + 1 + xs.length by omega]
    exact h5
theorem for_allN {g : Tg} {G : Sm} (P : Nat → Env → Prop) : ∀ (xs : List D) (k : Nat), (∀ x ∈ xs, ∀ j, j < k + xs.length → ∀ e, P j e → ∃ e1 e2, g x e = some e1 ∧ G e1 = .nx e2 ∧ P (j + 1) e2) → ∀ e, P k e → ∃ e', forR g G xs e = .nx e' ∧ P (k + xs.length) e'
  | [], k, _, e, he => ⟨e, rfl, he⟩
  | x :: xs, k, H, e, he => by
    obtain ⟨e1, e2, h1, h2, h3⟩ := H x (List.mem_cons_self ..) k (by simp) e he
    obtain ⟨e', h4, h5⟩ := for_allN P xs (k + 1) (fun y hy j hj => H y (List.mem_cons_of_mem _ hy) j (by rw [List.length_cons]; omega)) e2 h3
    refine ⟨e', (for_nx h1 h2).trans h4, ?_⟩
    rw [List.length_cons, show k + (xs.length + 1) = k + 1 + xs.length by omega]
    exact h5
/-- a truth that a def hands back of a datum -/
def pB (f : Md SV) (x : D) : Option Bool := match f [.d x] with
  | .ok (.d (.bool b)) [.unset] => some b
  | _ => none
theorem pB_ok {f : Md SV} {x : D} {b : Bool} (h : pB f x = some b) : f [.d x] = .ok (.d (.bool b)) [.unset] := by
  unfold pB at h
  split at h
  · rename_i b' q
    cases h
    exact q
  · cases h
end VL

set_option Elab.async false
set_option autoImplicit false
set_option linter.all false
set_option maxRecDepth 100000
set_option maxHeartbeats 4000000
namespace VL
open PySem PySem.Spec PyProof.Rows L2
/-! printed by gen.py for keptends_k72_events_written_and_read -/
def top (i : Nat) : Stmt := PySem.Challenge.pw_keptends_k72_events_written_and_read.main.body.getD i (.Pass ⟨0, 0, 0, 0⟩)
def clsBody (s : Stmt) : List Stmt := match s with
  | .ClassDef _ _ _ b _ _ _ _ _ _ _ => b
  | _ => []
def mth (i j : Nat) : Stmt := (clsBody (top i)).getD j (.Pass ⟨0, 0, 0, 0⟩)
abbrev st_is_integer : Stmt := (top 17)
abbrev st_is_number : Stmt := (top 18)
abbrev st_is_among : Stmt := (top 19)
abbrev st_is_name : Stmt := (top 20)
abbrev st_is_twofold : Stmt := (top 21)
abbrev st_is_step : Stmt := (top 22)
abbrev st_is_event : Stmt := (top 26)
abbrev st_want : Stmt := (top 28)
abbrev st_Reader_init : Stmt := (mth 32 0)
abbrev st_Reader_fail_unless : Stmt := (mth 32 1)
abbrev st_Reader_take : Stmt := (mth 32 2)
abbrev st_Reader_take_among : Stmt := (mth 32 3)
abbrev st_Reader_take_name : Stmt := (mth 32 4)
abbrev st_number_of : Stmt := (top 33)
abbrev st_Reader_take_number : Stmt := (mth 32 5)
abbrev st_Reader_stop : Stmt := (mth 32 7)
abbrev st_words_of_step : Stmt := (top 35)
abbrev st_step_text : Stmt := (top 36)
abbrev st_step_by : Stmt := (top 40)
abbrev st_event_by : Stmt := (top 42)
abbrev st_read_event : Stmt := (top 43)
abbrev st_line_of : Stmt := (top 45)
abbrev st_event_line : Stmt := (top 46)
abbrev st_law_feed : Stmt := (top 48)
abbrev st_law_draw : Stmt := (top 49)
abbrev st_law_any : Stmt := (top 50)
abbrev st_law_names : Stmt := (top 51)
abbrev st_law_strange : Stmt := (top 53)
abbrev st_law_is_number : Stmt := (top 54)
abbrev st_law_is_name : Stmt := (top 55)
abbrev st_law_is_step : Stmt := (top 56)
abbrev st_law_is_event : Stmt := (top 57)
abbrev st_law_any_event : Stmt := (top 58)
abbrev st_law_stands : Stmt := (top 59)
abbrev st_law_field : Stmt := (top 60)
abbrev st_law_read_event : Stmt := (top 61)
abbrev st_law_event_line : Stmt := (top 62)
abbrev st_law_bent_text : Stmt := (top 63)
abbrev st_law_lines : Stmt := (top 65)
abbrev st_law_is_read : Stmt := (top 64)
abbrev st_law : Stmt := (top 66)
def isA_PipeError (cn : Str) : Option Bool := [(("Broken" : Str), true), (("HouseError" : Str), true), (("InvalidEvent" : Str), true), (("InvalidRow" : Str), true), (("InvalidText" : Str), true), (("NotUsable" : Str), true), (("NothingToUndo" : Str), true), (("PaperError" : Str), true), (("PipeError" : Str), true), (("ProgramError" : Str), true), (("TextError" : Str), true)].lookup cn
def isA_NothingToUndo (cn : Str) : Option Bool := [(("Broken" : Str), false), (("HouseError" : Str), false), (("InvalidEvent" : Str), false), (("InvalidRow" : Str), false), (("InvalidText" : Str), false), (("NotUsable" : Str), false), (("NothingToUndo" : Str), true), (("PaperError" : Str), false), (("PipeError" : Str), false), (("ProgramError" : Str), false), (("TextError" : Str), false)].lookup cn
def isA_InvalidEvent (cn : Str) : Option Bool := [(("Broken" : Str), false), (("HouseError" : Str), false), (("InvalidEvent" : Str), true), (("InvalidRow" : Str), false), (("InvalidText" : Str), false), (("NotUsable" : Str), false), (("NothingToUndo" : Str), false), (("PaperError" : Str), false), (("PipeError" : Str), false), (("ProgramError" : Str), false), (("TextError" : Str), false)].lookup cn
def isA_NotUsable (cn : Str) : Option Bool := [(("Broken" : Str), false), (("HouseError" : Str), false), (("InvalidEvent" : Str), false), (("InvalidRow" : Str), false), (("InvalidText" : Str), false), (("NotUsable" : Str), true), (("NothingToUndo" : Str), false), (("PaperError" : Str), false), (("PipeError" : Str), false), (("ProgramError" : Str), false), (("TextError" : Str), false)].lookup cn
def isA_InvalidRow (cn : Str) : Option Bool := [(("Broken" : Str), false), (("HouseError" : Str), false), (("InvalidEvent" : Str), false), (("InvalidRow" : Str), true), (("InvalidText" : Str), false), (("NotUsable" : Str), false), (("NothingToUndo" : Str), false), (("PaperError" : Str), false), (("PipeError" : Str), false), (("ProgramError" : Str), false), (("TextError" : Str), false)].lookup cn
def isA_InvalidText (cn : Str) : Option Bool := [(("Broken" : Str), false), (("HouseError" : Str), false), (("InvalidEvent" : Str), false), (("InvalidRow" : Str), false), (("InvalidText" : Str), true), (("NotUsable" : Str), false), (("NothingToUndo" : Str), false), (("PaperError" : Str), false), (("PipeError" : Str), false), (("ProgramError" : Str), false), (("TextError" : Str), false)].lookup cn
def isA_Broken (cn : Str) : Option Bool := [(("Broken" : Str), true), (("HouseError" : Str), false), (("InvalidEvent" : Str), false), (("InvalidRow" : Str), false), (("InvalidText" : Str), false), (("NotUsable" : Str), false), (("NothingToUndo" : Str), false), (("PaperError" : Str), false), (("PipeError" : Str), false), (("ProgramError" : Str), false), (("TextError" : Str), false)].lookup cn
def isA_TextError (cn : Str) : Option Bool := [(("Broken" : Str), false), (("HouseError" : Str), false), (("InvalidEvent" : Str), false), (("InvalidRow" : Str), true), (("InvalidText" : Str), true), (("NotUsable" : Str), false), (("NothingToUndo" : Str), false), (("PaperError" : Str), false), (("PipeError" : Str), false), (("ProgramError" : Str), false), (("TextError" : Str), true)].lookup cn
def isA_HouseError (cn : Str) : Option Bool := [(("Broken" : Str), true), (("HouseError" : Str), true), (("InvalidEvent" : Str), true), (("InvalidRow" : Str), false), (("InvalidText" : Str), false), (("NotUsable" : Str), false), (("NothingToUndo" : Str), true), (("PaperError" : Str), false), (("PipeError" : Str), false), (("ProgramError" : Str), false), (("TextError" : Str), false)].lookup cn
def isA_ProgramError (cn : Str) : Option Bool := [(("Broken" : Str), false), (("HouseError" : Str), false), (("InvalidEvent" : Str), false), (("InvalidRow" : Str), false), (("InvalidText" : Str), false), (("NotUsable" : Str), true), (("NothingToUndo" : Str), false), (("PaperError" : Str), false), (("PipeError" : Str), false), (("ProgramError" : Str), true), (("TextError" : Str), false)].lookup cn
def isA_PaperError (cn : Str) : Option Bool := [(("Broken" : Str), false), (("HouseError" : Str), false), (("InvalidEvent" : Str), false), (("InvalidRow" : Str), false), (("InvalidText" : Str), false), (("NotUsable" : Str), false), (("NothingToUndo" : Str), false), (("PaperError" : Str), true), (("PipeError" : Str), false), (("ProgramError" : Str), false), (("TextError" : Str), false)].lookup cn
def isA_ValueError (cn : Str) : Option Bool := [(("Broken" : Str), true), (("HouseError" : Str), true), (("InvalidEvent" : Str), true), (("InvalidRow" : Str), true), (("InvalidText" : Str), true), (("NotUsable" : Str), true), (("NothingToUndo" : Str), true), (("PaperError" : Str), true), (("PipeError" : Str), true), (("ProgramError" : Str), true), (("TextError" : Str), true)].lookup cn
/-- what the head tells -/
structure Fx (P : Program) (w : World) (K : PySem.W.Frag) (mg : Str → Option Value) (base : Heap) (CT : Str → Option Addr) (tt : List (Addr × Str)) : Prop where
  d_is_integer : ∃ fd, FunD K "is_integer" "is_integer" (defArgs st_is_integer) (defBody st_is_integer) (defScope st_is_integer) [] [] (He.ga K "is_integer") fd
  g_is_integer : mg "is_integer" = some (.ref (He.ga K "is_integer"))
  n_isinstance : mg "isinstance" = none
  n_int : mg "int" = none
  n_bool : mg "bool" = none
  d_is_number : ∃ fd, FunD K "is_number" "is_number" (defArgs st_is_number) (defBody st_is_number) (defScope st_is_number) [] [] (He.ga K "is_number") fd
  g_is_number : mg "is_number" = some (.ref (He.ga K "is_number"))
  d_is_among : ∃ fd, FunD K "is_among" "is_among" (defArgs st_is_among) (defBody st_is_among) (defScope st_is_among) [] [] (He.ga K "is_among") fd
  g_is_among : mg "is_among" = some (.ref (He.ga K "is_among"))
  n_str : mg "str" = none
  d_is_name : ∃ fd, FunD K "is_name" "is_name" (defArgs st_is_name) (defBody st_is_name) (defScope st_is_name) [] [] (He.ga K "is_name") fd
  g_is_name : mg "is_name" = some (.ref (He.ga K "is_name"))
  n_len : mg "len" = none
  n_all : mg "all" = none
  w_MOST_LETTERS : GloD K mg "MOST_LETTERS" (.int 8)
  w_LETTERS : GloD K mg "LETTERS" (.str "abcdefghijklmnopqrstuvwxyz")
  d_is_twofold : ∃ fd, FunD K "is_twofold" "is_twofold" (defArgs st_is_twofold) (defBody st_is_twofold) (defScope st_is_twofold) [] [] (He.ga K "is_twofold") fd
  g_is_twofold : mg "is_twofold" = some (.ref (He.ga K "is_twofold"))
  n_tuple : mg "tuple" = none
  d_is_step : ∃ fd, FunD K "is_step" "is_step" (defArgs st_is_step) (defBody st_is_step) (defScope st_is_step) [] [] (He.ga K "is_step") fd
  g_is_step : mg "is_step" = some (.ref (He.ga K "is_step"))
  w_WORDS : GloD K mg "WORDS" (.tuple [(.str "go"), (.str "copy"), (.str "start"), (.str "mark"), (.str "close"), (.str "read"), (.str "write"), (.str "wait"), (.str "stay"), (.str "end")])
  d_is_event : ∃ fd, FunD K "is_event" "is_event" (defArgs st_is_event) (defBody st_is_event) (defScope st_is_event) [] [] (He.ga K "is_event") fd
  g_is_event : mg "is_event" = some (.ref (He.ga K "is_event"))
  w_EVENT_WORDS : GloD K mg "EVENT_WORDS" (.tuple [(.str "step"), (.str "careful"), (.str "mark")])
  w_CAREFULS : GloD K mg "CAREFULS" (.tuple [(.str "on"), (.str "off")])
  d_want : ∃ fd, FunD K "want" "want" (defArgs st_want) (defBody st_want) (defScope st_want) [] [] (He.ga K "want") fd
  g_want : mg "want" = some (.ref (He.ga K "want"))
  ct_NotUsable : CT "NotUsable" = some (He.ga K "NotUsable")
  g_NotUsable : mg "NotUsable" = some (.ref (He.ga K "NotUsable"))
  ox_NotUsable : OexC K (He.ga K "NotUsable")
  ini_NotUsable : PySem.W.findIn K (.ref (He.ga K "NotUsable")) "__init__" = some (some (.ref (He.ma K (He.ga K "NotUsable") "__init__")))
  inf_NotUsable : PySem.W.typeIn K (.ref (He.ma K (He.ga K "NotUsable") "__init__")) = some (.type "function")
  xi_NotUsable : ∃ fd, FnOk P w K mg base (L2.CX P w) 1 (He.ma K (He.ga K "NotUsable") "__init__") fd ["self", "word", "at"] (spE (He.ga K "NotUsable") ["word", "at"]) ∧ Binds K fd ["self", "word", "at"] []
  d_Reader_init : ∃ fd, FunD K "__init__" "Reader.__init__" (defArgs st_Reader_init) (defBody st_Reader_init) (defScope st_Reader_init) [] [] (He.ma K (He.ga K "Reader") "__init__") fd
  ct_Reader : CT "Reader" = some (He.ga K "Reader")
  cls_Reader : Cls K (He.ga K "Reader")
  na_Reader_held_words : NoAttr K (He.ga K "Reader") "held_words"
  na_Reader_held_count : NoAttr K (He.ga K "Reader") "held_count"
  na_Reader_held_line : NoAttr K (He.ga K "Reader") "held_line"
  d_Reader_fail_unless : ∃ fd, FunD K "fail_unless" "Reader.fail_unless" (defArgs st_Reader_fail_unless) (defBody st_Reader_fail_unless) (defScope st_Reader_fail_unless) [] [] (He.ma K (He.ga K "Reader") "fail_unless") fd
  ct_InvalidText : CT "InvalidText" = some (He.ga K "InvalidText")
  g_InvalidText : mg "InvalidText" = some (.ref (He.ga K "InvalidText"))
  ox_InvalidText : OexC K (He.ga K "InvalidText")
  ini_InvalidText : PySem.W.findIn K (.ref (He.ga K "InvalidText")) "__init__" = some (some (.ref (He.ma K (He.ga K "InvalidText") "__init__")))
  inf_InvalidText : PySem.W.typeIn K (.ref (He.ma K (He.ga K "InvalidText") "__init__")) = some (.type "function")
  xi_InvalidText : ∃ fd, FnOk P w K mg base (L2.CX P w) 1 (He.ma K (He.ga K "InvalidText") "__init__") fd ["self", "line", "field"] (spE (He.ga K "InvalidText") ["line", "field"]) ∧ Binds K fd ["self", "line", "field"] []
  d_Reader_take : ∃ fd, FunD K "take" "Reader.take" (defArgs st_Reader_take) (defBody st_Reader_take) (defScope st_Reader_take) [] [] (He.ma K (He.ga K "Reader") "take") fd
  me_Reader_fail_unless : Meth K (He.ga K "Reader") "fail_unless" (He.ma K (He.ga K "Reader") "fail_unless")
  d_Reader_take_among : ∃ fd, FunD K "take_among" "Reader.take_among" (defArgs st_Reader_take_among) (defBody st_Reader_take_among) (defScope st_Reader_take_among) [] [] (He.ma K (He.ga K "Reader") "take_among") fd
  me_Reader_take : Meth K (He.ga K "Reader") "take" (He.ma K (He.ga K "Reader") "take")
  d_Reader_take_name : ∃ fd, FunD K "take_name" "Reader.take_name" (defArgs st_Reader_take_name) (defBody st_Reader_take_name) (defScope st_Reader_take_name) [] [] (He.ma K (He.ga K "Reader") "take_name") fd
  d_number_of : ∃ fd, FunD K "number_of" "number_of" (defArgs st_number_of) (defBody st_number_of) (defScope st_number_of) [] [] (He.ga K "number_of") fd
  g_number_of : mg "number_of" = some (.ref (He.ga K "number_of"))
  w_MOST_DIGITS : GloD K mg "MOST_DIGITS" (.int 60)
  w_DIGITS : GloD K mg "DIGITS" (.str "0123456789")
  d_Reader_take_number : ∃ fd, FunD K "take_number" "Reader.take_number" (defArgs st_Reader_take_number) (defBody st_Reader_take_number) (defScope st_Reader_take_number) [] [] (He.ma K (He.ga K "Reader") "take_number") fd
  d_Reader_stop : ∃ fd, FunD K "stop" "Reader.stop" (defArgs st_Reader_stop) (defBody st_Reader_stop) (defScope st_Reader_stop) [] [] (He.ma K (He.ga K "Reader") "stop") fd
  d_words_of_step : ∃ fd, FunD K "words_of_step" "words_of_step" (defArgs st_words_of_step) (defBody st_words_of_step) (defScope st_words_of_step) [] [] (He.ga K "words_of_step") fd
  g_words_of_step : mg "words_of_step" = some (.ref (He.ga K "words_of_step"))
  d_step_text : ∃ fd, FunD K "step_text" "step_text" (defArgs st_step_text) (defBody st_step_text) (defScope st_step_text) [] [] (He.ga K "step_text") fd
  g_step_text : mg "step_text" = some (.ref (He.ga K "step_text"))
  d_step_by : ∃ fd, FunD K "step_by" "step_by" (defArgs st_step_by) (defBody st_step_by) (defScope st_step_by) [] [] (He.ga K "step_by") fd
  g_step_by : mg "step_by" = some (.ref (He.ga K "step_by"))
  w_NUMBERED : GloD K mg "NUMBERED" (.tuple [(.str "go"), (.str "aside")])
  w_BARE : GloD K mg "BARE" (.tuple [(.str "copy"), (.str "start"), (.str "mark"), (.str "close"), (.str "read"), (.str "write"), (.str "wait"), (.str "end")])
  me_Reader_take_number : Meth K (He.ga K "Reader") "take_number" (He.ma K (He.ga K "Reader") "take_number")
  me_Reader_stop : Meth K (He.ga K "Reader") "stop" (He.ma K (He.ga K "Reader") "stop")
  me_Reader_take_among : Meth K (He.ga K "Reader") "take_among" (He.ma K (He.ga K "Reader") "take_among")
  d_event_by : ∃ fd, FunD K "event_by" "event_by" (defArgs st_event_by) (defBody st_event_by) (defScope st_event_by) [] [] (He.ga K "event_by") fd
  g_event_by : mg "event_by" = some (.ref (He.ga K "event_by"))
  me_Reader_take_name : Meth K (He.ga K "Reader") "take_name" (He.ma K (He.ga K "Reader") "take_name")
  d_read_event : ∃ fd, FunD K "read_event" "read_event" (defArgs st_read_event) (defBody st_read_event) (defScope st_read_event) [] [] (He.ga K "read_event") fd
  g_read_event : mg "read_event" = some (.ref (He.ga K "read_event"))
  mk_Reader : Mk K (He.ga K "Reader") (He.ma K (He.ga K "Reader") "__init__")
  g_Reader : mg "Reader" = some (.ref (He.ga K "Reader"))
  d_line_of : ∃ fd, FunD K "line_of" "line_of" (defArgs st_line_of) (defBody st_line_of) (defScope st_line_of) [] [] (He.ga K "line_of") fd
  g_line_of : mg "line_of" = some (.ref (He.ga K "line_of"))
  d_event_line : ∃ fd, FunD K "event_line" "event_line" (defArgs st_event_line) (defBody st_event_line) (defScope st_event_line) [] [] (He.ga K "event_line") fd
  g_event_line : mg "event_line" = some (.ref (He.ga K "event_line"))
  d_law_feed : ∃ fd, FunD K "_law_feed" "_law_feed" (defArgs st_law_feed) (defBody st_law_feed) (defScope st_law_feed) [] [] (He.ga K "_law_feed") fd
  g__law_feed : mg "_law_feed" = some (.ref (He.ga K "_law_feed"))
  d_law_draw : ∃ fd, FunD K "_law_draw" "_law_draw" (defArgs st_law_draw) (defBody st_law_draw) (defScope st_law_draw) [] [] (He.ga K "_law_draw") fd
  g__law_draw : mg "_law_draw" = some (.ref (He.ga K "_law_draw"))
  d_law_any : ∃ fd, FunD K "_law_any" "_law_any" (defArgs st_law_any) (defBody st_law_any) (defScope st_law_any) [] [] (He.ga K "_law_any") fd
  g__law_any : mg "_law_any" = some (.ref (He.ga K "_law_any"))
  d_law_names : ∃ fd, FunD K "_law_names" "_law_names" (defArgs st_law_names) (defBody st_law_names) (defScope st_law_names) [] [] (He.ga K "_law_names") fd
  g__law_names : mg "_law_names" = some (.ref (He.ga K "_law_names"))
  n_range : mg "range" = none
  d_law_strange : ∃ fd, FunD K "_law_strange" "_law_strange" (defArgs st_law_strange) (defBody st_law_strange) (defScope st_law_strange) [] [] (He.ga K "_law_strange") fd
  g__law_strange : mg "_law_strange" = some (.ref (He.ga K "_law_strange"))
  d_law_is_number : ∃ fd, FunD K "_law_is_number" "_law_is_number" (defArgs st_law_is_number) (defBody st_law_is_number) (defScope st_law_is_number) [] [] (He.ga K "_law_is_number") fd
  g__law_is_number : mg "_law_is_number" = some (.ref (He.ga K "_law_is_number"))
  d_law_is_name : ∃ fd, FunD K "_law_is_name" "_law_is_name" (defArgs st_law_is_name) (defBody st_law_is_name) (defScope st_law_is_name) [] [] (He.ga K "_law_is_name") fd
  g__law_is_name : mg "_law_is_name" = some (.ref (He.ga K "_law_is_name"))
  d_law_is_step : ∃ fd, FunD K "_law_is_step" "_law_is_step" (defArgs st_law_is_step) (defBody st_law_is_step) (defScope st_law_is_step) [] [] (He.ga K "_law_is_step") fd
  g__law_is_step : mg "_law_is_step" = some (.ref (He.ga K "_law_is_step"))
  d_law_is_event : ∃ fd, FunD K "_law_is_event" "_law_is_event" (defArgs st_law_is_event) (defBody st_law_is_event) (defScope st_law_is_event) [] [] (He.ga K "_law_is_event") fd
  g__law_is_event : mg "_law_is_event" = some (.ref (He.ga K "_law_is_event"))
  d_law_any_event : ∃ fd, FunD K "_law_any_event" "_law_any_event" (defArgs st_law_any_event) (defBody st_law_any_event) (defScope st_law_any_event) [] [] (He.ga K "_law_any_event") fd
  g__law_any_event : mg "_law_any_event" = some (.ref (He.ga K "_law_any_event"))
  d_law_stands : ∃ fd, FunD K "_law_stands" "_law_stands" (defArgs st_law_stands) (defBody st_law_stands) (defScope st_law_stands) [] [] (He.ga K "_law_stands") fd
  g__law_stands : mg "_law_stands" = some (.ref (He.ga K "_law_stands"))
  d_law_field : ∃ fd, FunD K "_law_field" "_law_field" (defArgs st_law_field) (defBody st_law_field) (defScope st_law_field) [] [] (He.ga K "_law_field") fd
  g__law_field : mg "_law_field" = some (.ref (He.ga K "_law_field"))
  d_law_read_event : ∃ fd, FunD K "_law_read_event" "_law_read_event" (defArgs st_law_read_event) (defBody st_law_read_event) (defScope st_law_read_event) [] [] (He.ga K "_law_read_event") fd
  g__law_read_event : mg "_law_read_event" = some (.ref (He.ga K "_law_read_event"))
  d_law_event_line : ∃ fd, FunD K "_law_event_line" "_law_event_line" (defArgs st_law_event_line) (defBody st_law_event_line) (defScope st_law_event_line) [] [] (He.ga K "_law_event_line") fd
  g__law_event_line : mg "_law_event_line" = some (.ref (He.ga K "_law_event_line"))
  d_law_bent_text : ∃ fd, FunD K "_law_bent_text" "_law_bent_text" (defArgs st_law_bent_text) (defBody st_law_bent_text) (defScope st_law_bent_text) [] [] (He.ga K "_law_bent_text") fd
  g__law_bent_text : mg "_law_bent_text" = some (.ref (He.ga K "_law_bent_text"))
  d_law_lines : ∃ fd, FunD K "_law_lines" "_law_lines" (defArgs st_law_lines) (defBody st_law_lines) (defScope st_law_lines) [] [] (He.ga K "_law_lines") fd
  g__law_lines : mg "_law_lines" = some (.ref (He.ga K "_law_lines"))
  d_law_is_read : ∃ fd, FunD K "_law_is_read" "_law_is_read" (defArgs st_law_is_read) (defBody st_law_is_read) (defScope st_law_is_read) [] [] (He.ga K "_law_is_read") fd
  g__law_is_read : mg "_law_is_read" = some (.ref (He.ga K "_law_is_read"))
  tab_law_is_read : ∃ cc Pt, (∀ v, CodeOf K (He.ga K "_law_is_read") v → v = .ref cc) ∧ LamX.TabB base mg cc Pt ∧ (Pt, (("_law_is_read" : Str) ++ ".<locals>.") ++ "<lambda>") ∈ tt ∧ ∀ p ∈ tt, p.1 = Pt → p.2 = (("_law_is_read" : Str) ++ ".<locals>.") ++ "<lambda>"
  n_repr : mg "repr" = none
  d_law : ∃ fd, FunD K "law" "law" (defArgs st_law) (defBody st_law) (defScope st_law) [] [] (He.ga K "law") fd
  g_law : mg "law" = some (.ref (He.ga K "law"))
  tab_law : ∃ cc Pt, (∀ v, CodeOf K (He.ga K "law") v → v = .ref cc) ∧ LamX.TabB base mg cc Pt ∧ (Pt, (("law" : Str) ++ ".<locals>.") ++ "<lambda>") ∈ tt ∧ ∀ p ∈ tt, p.1 = Pt → p.2 = (("law" : Str) ++ ".<locals>.") ++ "<lambda>"
  exm_PipeError : ∀ cn C b, CT cn = some C → isA_PipeError cn = some b → PySem.W.exmOne K (.ref C) (.ref (He.ga K "PipeError")) = some b
  g_PipeError : mg "PipeError" = some (.ref (He.ga K "PipeError"))
  exq : ∀ cn C, CT cn = some C → isA_PipeError cn = some true → ExcC K C ∧ XfC K C ∧ ∀ f, f ∈ [("at" : Str), ("word" : Str), ("reason" : Str), ("event" : Str), ("steps" : Str), ("done" : Str), ("field" : Str), ("line" : Str), ("row" : Str)] → PySem.W.findIn K (.ref C) f = some none
  kit_NothingToUndo : ∀ cn C b, CT cn = some C → isA_NothingToUndo cn = some b → PySem.W.kitOne K (.ref C) (.ref (He.ga K "NothingToUndo")) = some b
  g_NothingToUndo : mg "NothingToUndo" = some (.ref (He.ga K "NothingToUndo"))
  kit_InvalidEvent : ∀ cn C b, CT cn = some C → isA_InvalidEvent cn = some b → PySem.W.kitOne K (.ref C) (.ref (He.ga K "InvalidEvent")) = some b
  g_InvalidEvent : mg "InvalidEvent" = some (.ref (He.ga K "InvalidEvent"))
  kit_NotUsable : ∀ cn C b, CT cn = some C → isA_NotUsable cn = some b → PySem.W.kitOne K (.ref C) (.ref (He.ga K "NotUsable")) = some b
  kit_InvalidRow : ∀ cn C b, CT cn = some C → isA_InvalidRow cn = some b → PySem.W.kitOne K (.ref C) (.ref (He.ga K "InvalidRow")) = some b
  g_InvalidRow : mg "InvalidRow" = some (.ref (He.ga K "InvalidRow"))
  kit_InvalidText : ∀ cn C b, CT cn = some C → isA_InvalidText cn = some b → PySem.W.kitOne K (.ref C) (.ref (He.ga K "InvalidText")) = some b
  kit_Broken : ∀ cn C b, CT cn = some C → isA_Broken cn = some b → PySem.W.kitOne K (.ref C) (.ref (He.ga K "Broken")) = some b
  g_Broken : mg "Broken" = some (.ref (He.ga K "Broken"))
  kit_TextError : ∀ cn C b, CT cn = some C → isA_TextError cn = some b → PySem.W.kitOne K (.ref C) (.ref (He.ga K "TextError")) = some b
  g_TextError : mg "TextError" = some (.ref (He.ga K "TextError"))
  kit_HouseError : ∀ cn C b, CT cn = some C → isA_HouseError cn = some b → PySem.W.kitOne K (.ref C) (.ref (He.ga K "HouseError")) = some b
  g_HouseError : mg "HouseError" = some (.ref (He.ga K "HouseError"))
  kit_ProgramError : ∀ cn C b, CT cn = some C → isA_ProgramError cn = some b → PySem.W.kitOne K (.ref C) (.ref (He.ga K "ProgramError")) = some b
  g_ProgramError : mg "ProgramError" = some (.ref (He.ga K "ProgramError"))
  kit_PaperError : ∀ cn C b, CT cn = some C → isA_PaperError cn = some b → PySem.W.kitOne K (.ref C) (.ref (He.ga K "PaperError")) = some b
  g_PaperError : mg "PaperError" = some (.ref (He.ga K "PaperError"))
  kit_ValueError : ∀ cn C b, CT cn = some C → isA_ValueError cn = some b → PySem.W.kitOne K (.ref C) (.type "ValueError") = some b
  n_ValueError : mg "ValueError" = none
  d_law_heard : ∃ fd, FunD K "_law_heard" "_law_heard" (defArgs (top 52)) (defBody (top 52)) (defScope (top 52)) [] [] (He.ga K "_law_heard") fd
  g__law_heard : mg "_law_heard" = some (.ref (He.ga K "_law_heard"))
section
variable {P : Program} {w : World} {K : PySem.W.Frag} {mg : Str → Option Value} {base : Heap} {CT : Str → Option Addr} {tt : List (Addr × Str)}
def s_law_heard : Sm := (sSeq (sSt (gN 2) (eL dLst (aCons (eIsX 1 isA_NotUsable) (aCons (eIsX 1 isA_InvalidEvent) (aCons (eIsX 1 isA_NothingToUndo) aNil))))) (sSeq (sSt (gN 2) (eOp2 dAdd (eV 2) (eL dLst (aCons (eIsX 1 isA_Broken) (aCons (eIsX 1 isA_InvalidText) (aCons (eIsX 1 isA_InvalidRow) aNil)))))) (sSeq (sStO 3 (oLst (aCons (eIsX 1 isA_ProgramError) (aCons (eIsX 1 isA_HouseError) (aCons (eIsX 1 isA_TextError) aNil))))) (sSeq (sEx (oLm 3 wAppend (aCons (eIsX 1 isA_PaperError) aNil))) (sSeq (sIf (tOr (tNt (tB (eIsX 1 isA_ValueError) truthS)) (tOr (tCm dNeI (eMl dCount (eV 2) (aCons (eK (.bool true)) aNil)) (eK (.int 1))) (tCm dNeI (oToD (oLm 3 wCount (aCons (eK (.bool true)) aNil))) (eK (.int 1))))) (sRt (oD (eL dTup (aCons (eK (.str "odd")) aNil)))) sNx) (sSeq (sIf (tAn (tB (eOp2 dIx (eV 2) (eK (.int 0))) truthS) (tB (eIxK 3 (.int 0)) truthS)) (sRt (oD (eL dTup (aCons (eK (.str "use")) (aCons (eXf 1 "word") (aCons (eXf 1 "at") aNil)))))) sNx) (sSeq (sIf (tAn (tB (eOp2 dIx (eV 2) (eK (.int 1))) truthS) (tB (eIxK 3 (.int 1)) truthS)) (sRt (oD (eL dTup (aCons (eK (.str "event")) (aCons (eXf 1 "event") (aCons (eXf 1 "reason") aNil)))))) sNx) (sSeq (sIf (tAn (tB (eOp2 dIx (eV 2) (eK (.int 2))) truthS) (tB (eIxK 3 (.int 1)) truthS)) (sRt (oD (eL dTup (aCons (eK (.str "undo")) (aCons (eXf 1 "steps") aNil))))) sNx) (sSeq (sIf (tAn (tB (eOp2 dIx (eV 2) (eK (.int 3))) truthS) (tB (eIxK 3 (.int 1)) truthS)) (sRt (oD (eL dTup (aCons (eK (.str "broken")) (aCons (eXf 1 "done") aNil))))) sNx) (sSeq (sIf (tAn (tB (eIxK 3 (.int 2)) truthS) (tOr (tB (eOp2 dIx (eV 2) (eK (.int 4))) truthS) (tB (eOp2 dIx (eV 2) (eK (.int 5))) truthS))) (sRt (oD (eIf (tB (eOp2 dIx (eV 2) (eK (.int 4))) truthS) (eL dTup (aCons (eK (.str "text")) (aCons (eXf 1 "line") (aCons (eXf 1 "field") aNil)))) (eL dTup (aCons (eK (.str "row")) (aCons (eXf 1 "row") aNil)))))) sNx) (sRt (oD (eL dTup (aCons (eK (.str "odd")) aNil))))))))))))))
def subPipe : Str → Option Bool := isA_PipeError
def hearPipe : Str → List (Str × D) → Option D := hearX 4 1 s_law_heard
abbrev st_law_heard : Stmt := (top 52)
theorem sc_law_heard : FnScope ["_law_ask", "e", "_law_own", "_law_sorts"] ["_law_ask"] (defScope st_law_heard) := ⟨rfl, rfl, rfl, by decide +kernel, rfl, by decide +kernel, by decide +kernel⟩
theorem gv_heard {X : Cx} {g : Addr} {cdg : Value} {q : Str} {fp : Program} {ww : World} {bb : Heap} (Z : Fx fp ww X.K X.mg bb CT tt) : LamX.GivesTo X ["_law_ask", "e", "_law_own", "_law_sorts"] "_law_heard" (defScope st_law_heard) g cdg (defBody st_law_heard) "_law_ask" q (TTh X.K CT tt "told" subPipe hearPipe) := by
  refine heard_gives (i := 1) rfl Z.g_PipeError (by decide +kernel) sc_law_heard.nd rfl rfl (Nat.le_of_ble_eq_true rfl) (fun cn C b => Z.exm_PipeError cn C b) (fun s H p oe C dd pn cn hC hS hz hf => ?_)
  obtain ⟨EC, XC, nf⟩ := Z.exq cn C hC hS
  exact (ds_cons (ds_set 2 sc_law_heard.nd rfl (.inl rfl) (de_lst (da_cons (de_isX 1 (v := .ref (He.ga X.K "NotUsable")) (fun _ _ _ h => h) EC hz hf rfl (.inl rfl) rfl Z.n_isinstance bt_isinstance (pe_glob rfl Z.g_NotUsable rfl) (fun _ r => r) (fun cn b hc hb => Z.kit_NotUsable cn _ b hc hb)) (da_cons (de_isX 1 (v := .ref (He.ga X.K "InvalidEvent")) (fun _ _ _ h => h) EC hz hf rfl (.inl rfl) rfl Z.n_isinstance bt_isinstance (pe_glob rfl Z.g_InvalidEvent rfl) (fun _ r => r) (fun cn b hc hb => Z.kit_InvalidEvent cn _ b hc hb)) (da_cons (de_isX 1 (v := .ref (He.ga X.K "NothingToUndo")) (fun _ _ _ h => h) EC hz hf rfl (.inl rfl) rfl Z.n_isinstance bt_isinstance (pe_glob rfl Z.g_NothingToUndo rfl) (fun _ r => r) (fun cn b hc hb => Z.kit_NothingToUndo cn _ b hc hb)) da_nil)))))
  (ds_cons (ds_set 2 sc_law_heard.nd rfl (.inl rfl) (de_add rfl (de_v 2 rfl (.inl rfl)) (de_lst (da_cons (de_isX 1 (v := .ref (He.ga X.K "Broken")) (fun _ _ _ h => h) EC hz hf rfl (.inl rfl) rfl Z.n_isinstance bt_isinstance (pe_glob rfl Z.g_Broken rfl) (fun _ r => r) (fun cn b hc hb => Z.kit_Broken cn _ b hc hb)) (da_cons (de_isX 1 (v := .ref (He.ga X.K "InvalidText")) (fun _ _ _ h => h) EC hz hf rfl (.inl rfl) rfl Z.n_isinstance bt_isinstance (pe_glob rfl Z.g_InvalidText rfl) (fun _ r => r) (fun cn b hc hb => Z.kit_InvalidText cn _ b hc hb)) (da_cons (de_isX 1 (v := .ref (He.ga X.K "InvalidRow")) (fun _ _ _ h => h) EC hz hf rfl (.inl rfl) rfl Z.n_isinstance bt_isinstance (pe_glob rfl Z.g_InvalidRow rfl) (fun _ r => r) (fun cn b hc hb => Z.kit_InvalidRow cn _ b hc hb)) da_nil))))))
  (ds_cons (ds_setO 3 sc_law_heard.nd rfl (.inl rfl) (Nat.le_of_ble_eq_true rfl) (do_lst (da_cons (de_isX 1 (v := .ref (He.ga X.K "ProgramError")) (fun _ _ _ h => h) EC hz hf rfl (.inl rfl) rfl Z.n_isinstance bt_isinstance (pe_glob rfl Z.g_ProgramError rfl) (fun _ r => r) (fun cn b hc hb => Z.kit_ProgramError cn _ b hc hb)) (da_cons (de_isX 1 (v := .ref (He.ga X.K "HouseError")) (fun _ _ _ h => h) EC hz hf rfl (.inl rfl) rfl Z.n_isinstance bt_isinstance (pe_glob rfl Z.g_HouseError rfl) (fun _ r => r) (fun cn b hc hb => Z.kit_HouseError cn _ b hc hb)) (da_cons (de_isX 1 (v := .ref (He.ga X.K "TextError")) (fun _ _ _ h => h) EC hz hf rfl (.inl rfl) rfl Z.n_isinstance bt_isinstance (pe_glob rfl Z.g_TextError rfl) (fun _ r => r) (fun cn b hc hb => Z.kit_TextError cn _ b hc hb)) da_nil)))))
  (ds_cons (ds_expr (do_app 3 rfl rfl (.inl rfl) (de_isX 1 (v := .ref (He.ga X.K "PaperError")) (fun _ _ _ h => h) EC hz hf rfl (.inl rfl) rfl Z.n_isinstance bt_isinstance (pe_glob rfl Z.g_PaperError rfl) (fun _ r => r) (fun cn b hc hb => Z.kit_PaperError cn _ b hc hb))))
  (ds_cons (ds_if (PW.pt (dt_or (dt_not (dt_tr (de_isX 1 (v := .ty "ValueError") (fun _ _ _ h => h) EC hz hf rfl (.inl rfl) rfl Z.n_isinstance bt_isinstance (pe_bltn rfl Z.n_ValueError (by decide +kernel) rfl) (fun _ r => r) (fun cn b hc hb => Z.kit_ValueError cn _ b hc hb)) rfl)) (dt_or (dt_neI (de_count rfl (de_v 2 rfl (.inl rfl)) (da_cons de_bl da_nil)) de_int) (dt_or1 (dt_neI (de_o (do_count 3 rfl rfl (.inl rfl) de_bl)) de_int))))) (ds_one (ds_ret (do_d (de_tup (da_cons de_str da_nil))))) ds_nil)
  (ds_cons (ds_if (PW.pt (dt_and (dt_tr (de_idx rfl (de_v 2 rfl (.inl rfl)) de_int (fun _ _ => rfl)) rfl) (dt_and1 (dt_tr (de_ixK 3 rfl rfl (.inl rfl) (fun _ _ => rfl)) rfl)))) (ds_one (ds_ret (do_d (de_tup (da_cons de_str (da_cons (de_xf 1 (fun _ _ _ h => h) rfl XC (nf "word" (by decide)) hz hf rfl (.inl rfl)) (da_cons (de_xf 1 (fun _ _ _ h => h) rfl XC (nf "at" (by decide)) hz hf rfl (.inl rfl)) da_nil))))))) ds_nil)
  (ds_cons (ds_if (PW.pt (dt_and (dt_tr (de_idx rfl (de_v 2 rfl (.inl rfl)) de_int (fun _ _ => rfl)) rfl) (dt_and1 (dt_tr (de_ixK 3 rfl rfl (.inl rfl) (fun _ _ => rfl)) rfl)))) (ds_one (ds_ret (do_d (de_tup (da_cons de_str (da_cons (de_xf 1 (fun _ _ _ h => h) rfl XC (nf "event" (by decide)) hz hf rfl (.inl rfl)) (da_cons (de_xf 1 (fun _ _ _ h => h) rfl XC (nf "reason" (by decide)) hz hf rfl (.inl rfl)) da_nil))))))) ds_nil)
  (ds_cons (ds_if (PW.pt (dt_and (dt_tr (de_idx rfl (de_v 2 rfl (.inl rfl)) de_int (fun _ _ => rfl)) rfl) (dt_and1 (dt_tr (de_ixK 3 rfl rfl (.inl rfl) (fun _ _ => rfl)) rfl)))) (ds_one (ds_ret (do_d (de_tup (da_cons de_str (da_cons (de_xf 1 (fun _ _ _ h => h) rfl XC (nf "steps" (by decide)) hz hf rfl (.inl rfl)) da_nil)))))) ds_nil)
  (ds_cons (ds_if (PW.pt (dt_and (dt_tr (de_idx rfl (de_v 2 rfl (.inl rfl)) de_int (fun _ _ => rfl)) rfl) (dt_and1 (dt_tr (de_ixK 3 rfl rfl (.inl rfl) (fun _ _ => rfl)) rfl)))) (ds_one (ds_ret (do_d (de_tup (da_cons de_str (da_cons (de_xf 1 (fun _ _ _ h => h) rfl XC (nf "done" (by decide)) hz hf rfl (.inl rfl)) da_nil)))))) ds_nil)
  (ds_cons (ds_if (PW.pt (dt_and (dt_tr (de_ixK 3 rfl rfl (.inl rfl) (fun _ _ => rfl)) rfl) (dt_and1 (PW.pt (dt_or (dt_tr (de_idx rfl (de_v 2 rfl (.inl rfl)) de_int (fun _ _ => rfl)) rfl) (dt_or1 (dt_tr (de_idx rfl (de_v 2 rfl (.inl rfl)) de_int (fun _ _ => rfl)) rfl))))))) (ds_one (ds_ret (do_d (de_if (dt_tr (de_idx rfl (de_v 2 rfl (.inl rfl)) de_int (fun _ _ => rfl)) rfl) (de_tup (da_cons de_str (da_cons (de_xf 1 (fun _ _ _ h => h) rfl XC (nf "line" (by decide)) hz hf rfl (.inl rfl)) (da_cons (de_xf 1 (fun _ _ _ h => h) rfl XC (nf "field" (by decide)) hz hf rfl (.inl rfl)) da_nil)))) (de_tup (da_cons de_str (da_cons (de_xf 1 (fun _ _ _ h => h) rfl XC (nf "row" (by decide)) hz hf rfl (.inl rfl)) da_nil))))))) ds_nil)
  (ds_one (ds_ret (do_d (de_tup (da_cons de_str da_nil)))))))))))))))
def s_is_integer : Sm := (sRt (oD (eAn (eOp1 (dIsi "int") (eV 0)) (eNt (eOp1 (dIsi "bool") (eV 0))))))
def f_is_integer : Md SV := callS 1 s_is_integer
theorem sc_is_integer : FnScope ["thing"] ["thing"] (defScope st_is_integer) := ⟨rfl, rfl, rfl, by decide +kernel, rfl, by decide +kernel, by decide +kernel⟩
theorem ok_is_integer (Z : Fx P w K mg base CT tt) : OkD P w K mg base false 2 CT tt (He.ga K "is_integer") ["thing"] 1 f_is_integer := by
  obtain ⟨fd, F⟩ := Z.d_is_integer
  have scN := sc_is_integer
  refine ⟨⟨fd, fn_ok (gb := false) F scN (fun cdv A outer s H E hr hp tk => ?_), F.bindsN (fun _ _ _ _ _ _ us hl => match us, hl with | [_], _ => rfl), ?_⟩, F.kp⟩
  · 
    exact (ds_one (ds_ret (do_d (de_and (de_isi rfl rfl rfl Z.n_isinstance bt_isinstance rfl Z.n_int bt_int (de_v 0 rfl (.inl rfl))) (de_one (de_not (de_isi rfl rfl rfl Z.n_isinstance bt_isinstance rfl Z.n_bool bt_bool (de_v 0 rfl (.inl rfl)))))))))
  · intro _
    exact kb_one F (by intros; rfl) (by intros; rfl)
def s_is_number : Sm := (sRt (oD (eAn (oToD (oCallN 1 f_is_integer [] (aaV (eV 0) aaN))) (eOp2 dGe (eV 0) (eK (.int 0))))))
def f_is_number : Md SV := callS 1 s_is_number
theorem sc_is_number : FnScope ["thing"] ["thing"] (defScope st_is_number) := ⟨rfl, rfl, rfl, by decide +kernel, rfl, by decide +kernel, by decide +kernel⟩
theorem ok_is_number (Z : Fx P w K mg base CT tt) : OkD P w K mg base false 3 CT tt (He.ga K "is_number") ["thing"] 1 f_is_number := by
  obtain ⟨fd, F⟩ := Z.d_is_number
  obtain ⟨⟨fd_is_integer, F_is_integer, b_is_integer, kb_is_integer⟩, k_is_integer⟩ := ok_is_integer Z
  have scN := sc_is_number
  refine ⟨⟨fd, fn_ok (gb := false) F scN (fun cdv A outer s H E hr hp tk => ?_), F.bindsN (fun _ _ _ _ _ _ us hl => match us, hl with | [_], _ => rfl), ?_⟩, F.kp⟩
  · have hr_is_integer : Rm false 2 _ := hr.mono (by decide)
    
    exact (ds_one (ds_ret (do_d (de_and (de_o (do_call (fun _ _ _ z => z) rfl F_is_integer hr_is_integer tk rfl Z.g_is_integer k_is_integer b_is_integer .nil (fun _ _ => .nil) (daa_val (de_v 0 rfl (.inl rfl)) daa_nil))) (de_one (de_ge (de_v 0 rfl (.inl rfl)) de_int))))))
  · intro _
    exact kb_one F (by intros; rfl) (by intros; rfl)
def s_is_among : Sm := (sRt (oD (eAn (eOp1 (dIsi "str") (eV 0)) (eOp2 dIn (eV 0) (eV 1)))))
def f_is_among : Md SV := callS 2 s_is_among
theorem sc_is_among : FnScope ["thing", "some"] ["thing", "some"] (defScope st_is_among) := ⟨rfl, rfl, rfl, by decide +kernel, rfl, by decide +kernel, by decide +kernel⟩
theorem ok_is_among (Z : Fx P w K mg base CT tt) : OkD P w K mg base false 2 CT tt (He.ga K "is_among") ["thing", "some"] 2 f_is_among := by
  obtain ⟨fd, F⟩ := Z.d_is_among
  have scN := sc_is_among
  refine ⟨⟨fd, fn_ok (gb := false) F scN (fun cdv A outer s H E hr hp tk => ?_), F.bindsN (fun _ _ _ _ _ _ us hl => match us, hl with | [_, _], _ => rfl), ?_⟩, F.kp⟩
  · 
    exact (ds_one (ds_ret (do_d (de_and (de_isi rfl rfl rfl Z.n_isinstance bt_isinstance rfl Z.n_str bt_str (de_v 0 rfl (.inl rfl))) (de_one (de_in hr rfl (de_v 0 rfl (.inl rfl)) (de_v 1 rfl (.inl rfl))))))))
  · exact fun z => absurd z (by decide)
def s_is_name : Sm := (sRt (oD (eAn (eOp1 (dIsi "str") (eV 0)) (eAn (eCh dLe dLe (eK (.int 1)) (eL dLen (aCons (eV 0) aNil)) (eK (.int 8))) (eL dAll (aCons (eLc (iOf itS (eV 0)) ([(("sign" : Str), 1)].map (·.2)) (gN 1) tYs (eOp2 dIn (eV 1) (eK (.str "abcdefghijklmnopqrstuvwxyz")))) aNil))))))
def f_is_name : Md SV := callS 2 s_is_name
theorem sc_is_name : FnScope ["thing", "sign"] ["thing"] (defScope st_is_name) := ⟨rfl, rfl, rfl, by decide +kernel, rfl, by decide +kernel, by decide +kernel⟩
theorem ok_is_name (Z : Fx P w K mg base CT tt) : OkD P w K mg base false 2 CT tt (He.ga K "is_name") ["thing"] 1 f_is_name := by
  obtain ⟨fd, F⟩ := Z.d_is_name
  have scN := sc_is_name
  refine ⟨⟨fd, fn_ok (gb := false) F scN (fun cdv A outer s H E hr hp tk => ?_), F.bindsN (fun _ _ _ _ _ _ us hl => match us, hl with | [_], _ => rfl), ?_⟩, F.kp⟩
  · 
    exact (ds_one (ds_ret (do_d (de_and (de_isi rfl rfl rfl Z.n_isinstance bt_isinstance rfl Z.n_str bt_str (de_v 0 rfl (.inl rfl))) (de_and (de_ch op_le op_le o_le o_le de_int (de_len rfl rfl Z.n_len bt_len (da_cons (de_v 0 rfl (.inl rfl)) da_nil)) (de_glo rfl rfl Z.w_MOST_LETTERS)) (de_one (de_all rfl rfl rfl Z.n_all bt_all (da_cons (de_lc (own := [(("sign" : Str), 1)]) (js := [1]) (by decide) rfl sc_is_name.nd (di_str (de_v 0 rfl (.inl rfl))) (blk_ok2 ["thing", "sign"] (defScope st_is_name) rfl rfl (by decide +kernel)) (fun s H C cl fp => (dg_name 1 sc_is_name.nd rfl (.inl rfl))) (fun s H C cl fp => dts_nil) (fun s H C cl fp => (de_in hr rfl (de_v 1 rfl (.inl rfl)) (de_glo rfl rfl Z.w_LETTERS)))) da_nil))))))))
  · intro _
    exact kb_one F (by intros; rfl) (by intros; rfl)
def s_is_twofold : Sm := (sRt (oD (eAn (eOp1 (dIsi "tuple") (eV 0)) (eOp2 dEq (eL dLen (aCons (eV 0) aNil)) (eK (.int 2))))))
def f_is_twofold : Md SV := callS 1 s_is_twofold
theorem sc_is_twofold : FnScope ["thing"] ["thing"] (defScope st_is_twofold) := ⟨rfl, rfl, rfl, by decide +kernel, rfl, by decide +kernel, by decide +kernel⟩
theorem ok_is_twofold (Z : Fx P w K mg base CT tt) : OkD P w K mg base false 2 CT tt (He.ga K "is_twofold") ["thing"] 1 f_is_twofold := by
  obtain ⟨fd, F⟩ := Z.d_is_twofold
  have scN := sc_is_twofold
  refine ⟨⟨fd, fn_ok (gb := false) F scN (fun cdv A outer s H E hr hp tk => ?_), F.bindsN (fun _ _ _ _ _ _ us hl => match us, hl with | [_], _ => rfl), ?_⟩, F.kp⟩
  · 
    exact (ds_one (ds_ret (do_d (de_and (de_isi rfl rfl rfl Z.n_isinstance bt_isinstance rfl Z.n_tuple bt_tuple (de_v 0 rfl (.inl rfl))) (de_one (de_eq hr rfl (de_len rfl rfl Z.n_len bt_len (da_cons (de_v 0 rfl (.inl rfl)) da_nil)) de_int))))))
  · intro _
    exact kb_one F (by intros; rfl) (by intros; rfl)
def s_is_step : Sm := (sSeq (sIf (tOr (tNt (tB (eOp1 (dIsi "tuple") (eV 0)) truthS)) (tOr (tCm dNe (eL dLen (aCons (eV 0) aNil)) (eK (.int 3))) (tNt (tB (oToD (oCallN 1 f_is_number [] (aaV (eOp2 dIx (eV 0) (eK (.int 0))) aaN))) truthS)))) (sRt (oD (eK (.bool false)))) sNx) (sSeq (sSt (gT 3 (gsC (gN 1) (gsC (gN 2) (gsC (gN 3) gsN)))) (eV 0)) (sSeq (sIf (tB (oToD (oCallN 2 f_is_among [] (aaV (eV 2) (aaV (eL dTup (aCons (eK (.str "go")) (aCons (eK (.str "aside")) aNil))) aaN)))) truthS) (sRt (oCallN 1 f_is_number [] (aaV (eV 3) aaN))) sNx) (sRt (oD (eAn (oToD (oCallN 2 f_is_among [] (aaV (eV 2) (aaV (eK (.tuple [(.str "go"), (.str "copy"), (.str "start"), (.str "mark"), (.str "close"), (.str "read"), (.str "write"), (.str "wait"), (.str "stay"), (.str "end")])) aaN)))) (eAn (eOp2 dNe (eV 2) (eK (.str "stay"))) (eAn (oToD (oCallN 1 f_is_integer [] (aaV (eV 3) aaN))) (eOp2 dEq (eV 3) (eOp1 dNeg (eK (.int 1))))))))))))
def f_is_step : Md SV := callS 4 s_is_step
theorem sc_is_step : FnScope ["thing", "process", "word", "number"] ["thing"] (defScope st_is_step) := ⟨rfl, rfl, rfl, by decide +kernel, rfl, by decide +kernel, by decide +kernel⟩
theorem ok_is_step (Z : Fx P w K mg base CT tt) : OkD P w K mg base false 4 CT tt (He.ga K "is_step") ["thing"] 1 f_is_step := by
  obtain ⟨fd, F⟩ := Z.d_is_step
  obtain ⟨⟨fd_is_number, F_is_number, b_is_number, kb_is_number⟩, k_is_number⟩ := ok_is_number Z
  obtain ⟨⟨fd_is_among, F_is_among, b_is_among, kb_is_among⟩, k_is_among⟩ := ok_is_among Z
  obtain ⟨⟨fd_is_integer, F_is_integer, b_is_integer, kb_is_integer⟩, k_is_integer⟩ := ok_is_integer Z
  have scN := sc_is_step
  refine ⟨⟨fd, fn_ok (gb := false) F scN (fun cdv A outer s H E hr hp tk => ?_), F.bindsN (fun _ _ _ _ _ _ us hl => match us, hl with | [_], _ => rfl), ?_⟩, F.kp⟩
  · have hr_is_number : Rm false 3 _ := hr.mono (by decide)
    have hr_is_among : Rm false 2 _ := hr.mono (by decide)
    have hr_is_integer : Rm false 2 _ := hr.mono (by decide)
    
    exact (ds_cons (ds_if (PW.pt (dt_or (dt_not (dt_tr (de_isi rfl rfl rfl Z.n_isinstance bt_isinstance rfl Z.n_tuple bt_tuple (de_v 0 rfl (.inl rfl))) rfl)) (dt_or (dt_ne hr rfl (de_len rfl rfl Z.n_len bt_len (da_cons (de_v 0 rfl (.inl rfl)) da_nil)) de_int) (dt_or1 (dt_not (dt_tr (de_o (do_call (fun _ _ _ z => z) rfl F_is_number hr_is_number tk rfl Z.g_is_number k_is_number b_is_number .nil (fun _ _ => .nil) (daa_val (de_idx rfl (de_v 0 rfl (.inl rfl)) de_int (fun _ _ => rfl)) daa_nil))) rfl)))))) (ds_one (ds_ret (do_d de_bl))) ds_nil)
  (ds_cons (ds_asg (dg_tup rfl rfl (dgs_cons (dg_name 1 sc_is_step.nd rfl (.inl rfl)) (dgs_cons (dg_name 2 sc_is_step.nd rfl (.inl rfl)) (dgs_cons (dg_name 3 sc_is_step.nd rfl (.inl rfl)) dgs_nil)))) (de_v 0 rfl (.inl rfl)))
  (ds_cons (ds_if (dt_tr (de_o (do_call (fun _ _ _ z => z) rfl F_is_among hr_is_among tk rfl Z.g_is_among k_is_among b_is_among .nil (fun _ _ => .nil) (daa_val (de_v 2 rfl (.inl rfl)) (daa_val (de_tup (da_cons de_str (da_cons de_str da_nil))) daa_nil)))) rfl) (ds_one (ds_ret (do_call (fun _ _ _ z => z) rfl F_is_number hr_is_number tk rfl Z.g_is_number k_is_number b_is_number .nil (fun _ _ => .nil) (daa_val (de_v 3 rfl (.inl rfl)) daa_nil)))) ds_nil)
  (ds_one (ds_ret (do_d (de_and (de_o (do_call (fun _ _ _ z => z) rfl F_is_among hr_is_among tk rfl Z.g_is_among k_is_among b_is_among .nil (fun _ _ => .nil) (daa_val (de_v 2 rfl (.inl rfl)) (daa_val (de_glo rfl rfl Z.w_WORDS) daa_nil)))) (de_and (de_ne hr rfl (de_v 2 rfl (.inl rfl)) de_str) (de_and (de_o (do_call (fun _ _ _ z => z) rfl F_is_integer hr_is_integer tk rfl Z.g_is_integer k_is_integer b_is_integer .nil (fun _ _ => .nil) (daa_val (de_v 3 rfl (.inl rfl)) daa_nil))) (de_one (de_eq hr rfl (de_v 3 rfl (.inl rfl)) (de_neg de_int))))))))))))
  · intro _
    exact kb_one F (by intros; rfl) (by intros; rfl)
def s_is_event : Sm := (sSeq (sIf (tOr (tNt (tB (oToD (oCallN 1 f_is_twofold [] (aaV (eV 0) aaN))) truthS)) (tNt (tB (oToD (oCallN 2 f_is_among [] (aaV (eOp2 dIx (eV 0) (eK (.int 0))) (aaV (eK (.tuple [(.str "step"), (.str "careful"), (.str "mark")])) aaN)))) truthS))) (sRt (oD (eK (.bool false)))) sNx) (sSeq (sSt (gT 2 (gsC (gN 1) (gsC (gN 2) gsN))) (eV 0)) (sSeq (sIf (tCm dEq (eV 1) (eK (.str "step"))) (sRt (oCallN 1 f_is_step [] (aaV (eV 2) aaN))) sNx) (sRt (oD (eIf (tCm dEq (eV 1) (eK (.str "careful"))) (oToD (oCallN 2 f_is_among [] (aaV (eV 2) (aaV (eK (.tuple [(.str "on"), (.str "off")])) aaN)))) (oToD (oCallN 1 f_is_name [] (aaV (eV 2) aaN)))))))))
def f_is_event : Md SV := callS 3 s_is_event
theorem sc_is_event : FnScope ["thing", "kind", "what"] ["thing"] (defScope st_is_event) := ⟨rfl, rfl, rfl, by decide +kernel, rfl, by decide +kernel, by decide +kernel⟩
theorem ok_is_event (Z : Fx P w K mg base CT tt) : OkD P w K mg base false 5 CT tt (He.ga K "is_event") ["thing"] 1 f_is_event := by
  obtain ⟨fd, F⟩ := Z.d_is_event
  obtain ⟨⟨fd_is_twofold, F_is_twofold, b_is_twofold, kb_is_twofold⟩, k_is_twofold⟩ := ok_is_twofold Z
  obtain ⟨⟨fd_is_among, F_is_among, b_is_among, kb_is_among⟩, k_is_among⟩ := ok_is_among Z
  obtain ⟨⟨fd_is_step, F_is_step, b_is_step, kb_is_step⟩, k_is_step⟩ := ok_is_step Z
  obtain ⟨⟨fd_is_name, F_is_name, b_is_name, kb_is_name⟩, k_is_name⟩ := ok_is_name Z
  have scN := sc_is_event
  refine ⟨⟨fd, fn_ok (gb := false) F scN (fun cdv A outer s H E hr hp tk => ?_), F.bindsN (fun _ _ _ _ _ _ us hl => match us, hl with | [_], _ => rfl), ?_⟩, F.kp⟩
  · have hr_is_twofold : Rm false 2 _ := hr.mono (by decide)
    have hr_is_among : Rm false 2 _ := hr.mono (by decide)
    have hr_is_step : Rm false 4 _ := hr.mono (by decide)
    have hr_is_name : Rm false 2 _ := hr.mono (by decide)
    
    exact (ds_cons (ds_if (PW.pt (dt_or (dt_not (dt_tr (de_o (do_call (fun _ _ _ z => z) rfl F_is_twofold hr_is_twofold tk rfl Z.g_is_twofold k_is_twofold b_is_twofold .nil (fun _ _ => .nil) (daa_val (de_v 0 rfl (.inl rfl)) daa_nil))) rfl)) (dt_or1 (dt_not (dt_tr (de_o (do_call (fun _ _ _ z => z) rfl F_is_among hr_is_among tk rfl Z.g_is_among k_is_among b_is_among .nil (fun _ _ => .nil) (daa_val (de_idx rfl (de_v 0 rfl (.inl rfl)) de_int (fun _ _ => rfl)) (daa_val (de_glo rfl rfl Z.w_EVENT_WORDS) daa_nil)))) rfl))))) (ds_one (ds_ret (do_d de_bl))) ds_nil)
  (ds_cons (ds_asg (dg_tup rfl rfl (dgs_cons (dg_name 1 sc_is_event.nd rfl (.inl rfl)) (dgs_cons (dg_name 2 sc_is_event.nd rfl (.inl rfl)) dgs_nil))) (de_v 0 rfl (.inl rfl)))
  (ds_cons (ds_if (dt_eq hr rfl (de_v 1 rfl (.inl rfl)) de_str) (ds_one (ds_ret (do_call (fun _ _ _ z => z) rfl F_is_step hr_is_step tk rfl Z.g_is_step k_is_step b_is_step .nil (fun _ _ => .nil) (daa_val (de_v 2 rfl (.inl rfl)) daa_nil)))) ds_nil)
  (ds_one (ds_ret (do_d (de_if (dt_eq hr rfl (de_v 1 rfl (.inl rfl)) de_str) (de_o (do_call (fun _ _ _ z => z) rfl F_is_among hr_is_among tk rfl Z.g_is_among k_is_among b_is_among .nil (fun _ _ => .nil) (daa_val (de_v 2 rfl (.inl rfl)) (daa_val (de_glo rfl rfl Z.w_CAREFULS) daa_nil)))) (de_o (do_call (fun _ _ _ z => z) rfl F_is_name hr_is_name tk rfl Z.g_is_name k_is_name b_is_name .nil (fun _ _ => .nil) (daa_val (de_v 2 rfl (.inl rfl)) daa_nil))))))))))
  · intro _
    exact kb_one F (by intros; rfl) (by intros; rfl)
def s_want : Sm := (sIf (tNt (tB (eV 0) truthS)) (sRaise "NotUsable" ["word", "at"] (aCons (eV 1) (aCons (eOp1 dNeg (eK (.int 1))) aNil))) sNx)
def f_want : Md SV := callS 2 s_want
theorem sc_want : FnScope ["is_right", "word"] ["is_right", "word"] (defScope st_want) := ⟨rfl, rfl, rfl, by decide +kernel, rfl, by decide +kernel, by decide +kernel⟩
theorem ok_want (Z : Fx P w K mg base CT tt) : OkD P w K mg base false 3 CT tt (He.ga K "want") ["is_right", "word"] 2 f_want := by
  obtain ⟨fd, F⟩ := Z.d_want
  obtain ⟨fx_NotUsable, X_NotUsable, xb_NotUsable⟩ := Z.xi_NotUsable
  have scN := sc_want
  refine ⟨⟨fd, fn_ok (gb := false) F scN (fun cdv A outer s H E hr hp tk => ?_), F.bindsN (fun _ _ _ _ _ _ us hl => match us, hl with | [_, _], _ => rfl), ?_⟩, F.kp⟩
  · 
    exact (ds_one (ds_if (dt_not (dt_tr (de_v 0 rfl (.inl rfl)) rfl)) (ds_one (ds_raise rfl Z.ct_NotUsable rfl tk Z.ox_NotUsable Z.ini_NotUsable Z.inf_NotUsable X_NotUsable (hr.mono (by decide)) xb_NotUsable rfl Z.g_NotUsable (da_cons (de_v 1 rfl (.inl rfl)) (da_cons (de_neg de_int) da_nil)))) ds_nil))
  · exact fun z => absurd z (by decide)
def s_Reader_init : Sm := (sSeq (sB (eMs dSplit (eV 1) (aCons (eK (.str " ")) aNil)) (sFldP 0 "Reader" "held_words")) (sSeq (sB (eV 2) (sFldP 0 "Reader" "held_line")) (sB (eK (.int 0)) (sFldP 0 "Reader" "held_count"))))
def f_Reader_init : Md SV := callS 3 s_Reader_init
theorem sc_Reader_init : FnScope ["self", "text", "line"] ["self", "text", "line"] (defScope st_Reader_init) := ⟨rfl, rfl, rfl, by decide +kernel, rfl, by decide +kernel, by decide +kernel⟩
theorem ok_Reader_init (Z : Fx P w K mg base CT tt) : OkD P w K mg base false 2 CT tt (He.ma K (He.ga K "Reader") "__init__") ["self", "text", "line"] 3 f_Reader_init := by
  obtain ⟨fd, F⟩ := Z.d_Reader_init
  have scN := sc_Reader_init
  refine ⟨⟨fd, fn_ok (gb := false) F scN (fun cdv A outer s H E hr hp tk => ?_), F.bindsN (fun _ _ _ _ _ _ us hl => match us, hl with | [_, _, _], _ => rfl), ?_⟩, F.kp⟩
  · 
    exact (ds_cons (ds_fld 0 rfl Z.ct_Reader Z.cls_Reader Z.na_Reader_held_words rfl (.inl rfl) (de_split (de_v 1 rfl (.inl rfl)) (da_cons de_str da_nil)))
  (ds_cons (ds_fld 0 rfl Z.ct_Reader Z.cls_Reader Z.na_Reader_held_line rfl (.inl rfl) (de_v 2 rfl (.inl rfl)))
  (ds_one (ds_fld 0 rfl Z.ct_Reader Z.cls_Reader Z.na_Reader_held_count rfl (.inl rfl) de_int))))
  · exact fun z => absurd z (by decide)
def s_Reader_fail_unless : Sm := (sIf (tNt (tB (eV 1) truthS)) (sRaise "InvalidText" ["line", "field"] (aCons (eFld 0 "Reader" "held_line") (aCons (eOp2 dSub (eFld 0 "Reader" "held_count") (eK (.int 1))) aNil))) sNx)
def f_Reader_fail_unless : Md SV := callS 2 s_Reader_fail_unless
theorem sc_Reader_fail_unless : FnScope ["self", "is_right"] ["self", "is_right"] (defScope st_Reader_fail_unless) := ⟨rfl, rfl, rfl, by decide +kernel, rfl, by decide +kernel, by decide +kernel⟩
theorem ok_Reader_fail_unless (Z : Fx P w K mg base CT tt) : OkD P w K mg base false 3 CT tt (He.ma K (He.ga K "Reader") "fail_unless") ["self", "is_right"] 2 f_Reader_fail_unless := by
  obtain ⟨fd, F⟩ := Z.d_Reader_fail_unless
  obtain ⟨fx_InvalidText, X_InvalidText, xb_InvalidText⟩ := Z.xi_InvalidText
  have scN := sc_Reader_fail_unless
  refine ⟨⟨fd, fn_ok (gb := false) F scN (fun cdv A outer s H E hr hp tk => ?_), F.bindsN (fun _ _ _ _ _ _ us hl => match us, hl with | [_, _], _ => rfl), ?_⟩, F.kp⟩
  · 
    exact (ds_one (ds_if (dt_not (dt_tr (de_v 1 rfl (.inl rfl)) rfl)) (ds_one (ds_raise rfl Z.ct_InvalidText rfl tk Z.ox_InvalidText Z.ini_InvalidText Z.inf_InvalidText X_InvalidText (hr.mono (by decide)) xb_InvalidText rfl Z.g_InvalidText (da_cons (de_fld 0 rfl Z.ct_Reader Z.cls_Reader Z.na_Reader_held_line rfl (.inl rfl)) (da_cons (de_sub (de_fld 0 rfl Z.ct_Reader Z.cls_Reader Z.na_Reader_held_count rfl (.inl rfl)) de_int) da_nil)))) ds_nil))
  · exact fun z => absurd z (by decide)
def s_Reader_take : Sm := (sSeq (sFldAdd 0 "Reader" "held_count" (eK (.int 1))) (sSeq (sEx (oMethN 2 0 "Reader" "fail_unless" f_Reader_fail_unless [] (aaV (eOp2 dLe (eFld 0 "Reader" "held_count") (eL dLen (aCons (eFld 0 "Reader" "held_words") aNil))) aaN))) (sSeq (sSt (gN 1) (eOp2 dIx (eFld 0 "Reader" "held_words") (eOp2 dSub (eFld 0 "Reader" "held_count") (eK (.int 1))))) (sSeq (sEx (oMethN 2 0 "Reader" "fail_unless" f_Reader_fail_unless [] (aaV (eOp2 dNe (eV 1) (eK (.str ""))) aaN))) (sRt (oD (eV 1)))))))
def f_Reader_take : Md SV := callS 2 s_Reader_take
theorem sc_Reader_take : FnScope ["self", "word"] ["self"] (defScope st_Reader_take) := ⟨rfl, rfl, rfl, by decide +kernel, rfl, by decide +kernel, by decide +kernel⟩
theorem ok_Reader_take (Z : Fx P w K mg base CT tt) : OkD P w K mg base false 4 CT tt (He.ma K (He.ga K "Reader") "take") ["self"] 1 f_Reader_take := by
  obtain ⟨fd, F⟩ := Z.d_Reader_take
  obtain ⟨⟨fd_Reader_fail_unless, F_Reader_fail_unless, b_Reader_fail_unless, kb_Reader_fail_unless⟩, k_Reader_fail_unless⟩ := ok_Reader_fail_unless Z
  have scN := sc_Reader_take
  refine ⟨⟨fd, fn_ok (gb := false) F scN (fun cdv A outer s H E hr hp tk => ?_), F.bindsN (fun _ _ _ _ _ _ us hl => match us, hl with | [_], _ => rfl), ?_⟩, F.kp⟩
  · have hr_Reader_fail_unless : Rm false 3 _ := hr.mono (by decide)
    
    exact (ds_cons (ds_fldadd 0 rfl Z.ct_Reader Z.cls_Reader Z.na_Reader_held_count rfl (.inl rfl) de_int)
  (ds_cons (ds_expr (do_meth (fun _ _ _ z => z) rfl Z.ct_Reader Z.cls_Reader Z.me_Reader_fail_unless F_Reader_fail_unless hr_Reader_fail_unless tk rfl (.inl rfl) b_Reader_fail_unless .nil (fun _ _ => .nil) (daa_val (de_le (de_fld 0 rfl Z.ct_Reader Z.cls_Reader Z.na_Reader_held_count rfl (.inl rfl)) (de_len rfl rfl Z.n_len bt_len (da_cons (de_fld 0 rfl Z.ct_Reader Z.cls_Reader Z.na_Reader_held_words rfl (.inl rfl)) da_nil))) daa_nil)))
  (ds_cons (ds_set 1 sc_Reader_take.nd rfl (.inl rfl) (de_idx rfl (de_fld 0 rfl Z.ct_Reader Z.cls_Reader Z.na_Reader_held_words rfl (.inl rfl)) (de_sub (de_fld 0 rfl Z.ct_Reader Z.cls_Reader Z.na_Reader_held_count rfl (.inl rfl)) de_int) (fun _ _ => rfl)))
  (ds_cons (ds_expr (do_meth (fun _ _ _ z => z) rfl Z.ct_Reader Z.cls_Reader Z.me_Reader_fail_unless F_Reader_fail_unless hr_Reader_fail_unless tk rfl (.inl rfl) b_Reader_fail_unless .nil (fun _ _ => .nil) (daa_val (de_ne hr rfl (de_v 1 rfl (.inl rfl)) de_str) daa_nil)))
  (ds_one (ds_ret (do_d (de_v 1 rfl (.inl rfl)))))))))
  · intro _
    exact kb_one F (by intros; rfl) (by intros; rfl)
def s_Reader_take_among : Sm := (sSeq (sSt (gN 2) (oToD (oMethN 1 0 "Reader" "take" f_Reader_take [] aaN))) (sSeq (sEx (oMethN 2 0 "Reader" "fail_unless" f_Reader_fail_unless [] (aaV (eOp2 dIn (eV 2) (eV 1)) aaN))) (sRt (oD (eV 2)))))
def f_Reader_take_among : Md SV := callS 3 s_Reader_take_among
theorem sc_Reader_take_among : FnScope ["self", "some", "word"] ["self", "some"] (defScope st_Reader_take_among) := ⟨rfl, rfl, rfl, by decide +kernel, rfl, by decide +kernel, by decide +kernel⟩
theorem ok_Reader_take_among (Z : Fx P w K mg base CT tt) : OkD P w K mg base false 5 CT tt (He.ma K (He.ga K "Reader") "take_among") ["self", "some"] 2 f_Reader_take_among := by
  obtain ⟨fd, F⟩ := Z.d_Reader_take_among
  obtain ⟨⟨fd_Reader_take, F_Reader_take, b_Reader_take, kb_Reader_take⟩, k_Reader_take⟩ := ok_Reader_take Z
  obtain ⟨⟨fd_Reader_fail_unless, F_Reader_fail_unless, b_Reader_fail_unless, kb_Reader_fail_unless⟩, k_Reader_fail_unless⟩ := ok_Reader_fail_unless Z
  have scN := sc_Reader_take_among
  refine ⟨⟨fd, fn_ok (gb := false) F scN (fun cdv A outer s H E hr hp tk => ?_), F.bindsN (fun _ _ _ _ _ _ us hl => match us, hl with | [_, _], _ => rfl), ?_⟩, F.kp⟩
  · have hr_Reader_take : Rm false 4 _ := hr.mono (by decide)
    have hr_Reader_fail_unless : Rm false 3 _ := hr.mono (by decide)
    
    exact (ds_cons (ds_set 2 sc_Reader_take_among.nd rfl (.inl rfl) (de_o (do_meth0 (fun _ _ _ z => z) rfl Z.ct_Reader Z.cls_Reader Z.me_Reader_take F_Reader_take hr_Reader_take tk rfl (.inl rfl) b_Reader_take .nil (fun _ _ => .nil))))
  (ds_cons (ds_expr (do_meth (fun _ _ _ z => z) rfl Z.ct_Reader Z.cls_Reader Z.me_Reader_fail_unless F_Reader_fail_unless hr_Reader_fail_unless tk rfl (.inl rfl) b_Reader_fail_unless .nil (fun _ _ => .nil) (daa_val (de_in hr rfl (de_v 2 rfl (.inl rfl)) (de_v 1 rfl (.inl rfl))) daa_nil)))
  (ds_one (ds_ret (do_d (de_v 2 rfl (.inl rfl)))))))
  · exact fun z => absurd z (by decide)
def s_Reader_take_name : Sm := (sSeq (sSt (gN 1) (oToD (oMethN 1 0 "Reader" "take" f_Reader_take [] aaN))) (sSeq (sEx (oMethN 2 0 "Reader" "fail_unless" f_Reader_fail_unless [] (aaV (oToD (oCallN 1 f_is_name [] (aaV (eV 1) aaN))) aaN))) (sRt (oD (eV 1)))))
def f_Reader_take_name : Md SV := callS 2 s_Reader_take_name
theorem sc_Reader_take_name : FnScope ["self", "word"] ["self"] (defScope st_Reader_take_name) := ⟨rfl, rfl, rfl, by decide +kernel, rfl, by decide +kernel, by decide +kernel⟩
theorem ok_Reader_take_name (Z : Fx P w K mg base CT tt) : OkD P w K mg base false 5 CT tt (He.ma K (He.ga K "Reader") "take_name") ["self"] 1 f_Reader_take_name := by
  obtain ⟨fd, F⟩ := Z.d_Reader_take_name
  obtain ⟨⟨fd_Reader_take, F_Reader_take, b_Reader_take, kb_Reader_take⟩, k_Reader_take⟩ := ok_Reader_take Z
  obtain ⟨⟨fd_Reader_fail_unless, F_Reader_fail_unless, b_Reader_fail_unless, kb_Reader_fail_unless⟩, k_Reader_fail_unless⟩ := ok_Reader_fail_unless Z
  obtain ⟨⟨fd_is_name, F_is_name, b_is_name, kb_is_name⟩, k_is_name⟩ := ok_is_name Z
  have scN := sc_Reader_take_name
  refine ⟨⟨fd, fn_ok (gb := false) F scN (fun cdv A outer s H E hr hp tk => ?_), F.bindsN (fun _ _ _ _ _ _ us hl => match us, hl with | [_], _ => rfl), ?_⟩, F.kp⟩
  · have hr_Reader_take : Rm false 4 _ := hr.mono (by decide)
    have hr_Reader_fail_unless : Rm false 3 _ := hr.mono (by decide)
    have hr_is_name : Rm false 2 _ := hr.mono (by decide)
    
    exact (ds_cons (ds_set 1 sc_Reader_take_name.nd rfl (.inl rfl) (de_o (do_meth0 (fun _ _ _ z => z) rfl Z.ct_Reader Z.cls_Reader Z.me_Reader_take F_Reader_take hr_Reader_take tk rfl (.inl rfl) b_Reader_take .nil (fun _ _ => .nil))))
  (ds_cons (ds_expr (do_meth (fun _ _ _ z => z) rfl Z.ct_Reader Z.cls_Reader Z.me_Reader_fail_unless F_Reader_fail_unless hr_Reader_fail_unless tk rfl (.inl rfl) b_Reader_fail_unless .nil (fun _ _ => .nil) (daa_val (de_o (do_call (fun _ _ _ z => z) rfl F_is_name hr_is_name tk rfl Z.g_is_name k_is_name b_is_name .nil (fun _ _ => .nil) (daa_val (de_v 1 rfl (.inl rfl)) daa_nil))) daa_nil)))
  (ds_one (ds_ret (do_d (de_v 1 rfl (.inl rfl)))))))
  · intro _
    exact kb_one F (by intros; rfl) (by intros; rfl)
def s_number_of : Sm := (sSeq (sIf (tOr (tNt (tCh dLe dLe (eK (.int 1)) (eL dLen (aCons (eV 0) aNil)) (eK (.int 60)))) (tNt (tB (eL dAll (aCons (eLc (iOf itS (eV 0)) ([(("sign" : Str), 1)].map (·.2)) (gN 1) tYs (eOp2 dIn (eV 1) (eK (.str "0123456789")))) aNil)) truthS))) (sRt (oD (eK .none))) sNx) (sRt (oD (eIf (tAn (tCm dEq (eOp2 dIx (eV 0) (eK (.int 0))) (eK (.str "0"))) (tCm dNe (eV 0) (eK (.str "0")))) (eK .none) (eL dInt (aCons (eV 0) aNil))))))
def f_number_of : Md SV := callS 2 s_number_of
theorem sc_number_of : FnScope ["word", "sign"] ["word"] (defScope st_number_of) := ⟨rfl, rfl, rfl, by decide +kernel, rfl, by decide +kernel, by decide +kernel⟩
theorem ok_number_of (Z : Fx P w K mg base CT tt) : OkD P w K mg base false 2 CT tt (He.ga K "number_of") ["word"] 1 f_number_of := by
  obtain ⟨fd, F⟩ := Z.d_number_of
  have scN := sc_number_of
  refine ⟨⟨fd, fn_ok (gb := false) F scN (fun cdv A outer s H E hr hp tk => ?_), F.bindsN (fun _ _ _ _ _ _ us hl => match us, hl with | [_], _ => rfl), ?_⟩, F.kp⟩
  · 
    exact (ds_cons (ds_if (PW.pt (dt_or (dt_not (dt_ch op_le op_le o_le o_le de_int (de_len rfl rfl Z.n_len bt_len (da_cons (de_v 0 rfl (.inl rfl)) da_nil)) (de_glo rfl rfl Z.w_MOST_DIGITS))) (dt_or1 (dt_not (dt_tr (de_all rfl rfl rfl Z.n_all bt_all (da_cons (de_lc (own := [(("sign" : Str), 1)]) (js := [1]) (by decide) rfl sc_number_of.nd (di_str (de_v 0 rfl (.inl rfl))) (blk_ok2 ["word", "sign"] (defScope st_number_of) rfl rfl (by decide +kernel)) (fun s H C cl fp => (dg_name 1 sc_number_of.nd rfl (.inl rfl))) (fun s H C cl fp => dts_nil) (fun s H C cl fp => (de_in hr rfl (de_v 1 rfl (.inl rfl)) (de_glo rfl rfl Z.w_DIGITS)))) da_nil)) rfl))))) (ds_one (ds_ret (do_d de_non))) ds_nil)
  (ds_one (ds_ret (do_d (de_if (PW.pt (dt_and (dt_eq hr rfl (de_idx rfl (de_v 0 rfl (.inl rfl)) de_int (fun _ _ => rfl)) de_str) (dt_and1 (dt_ne hr rfl (de_v 0 rfl (.inl rfl)) de_str)))) de_non (de_int1 rfl Z.n_int bt_int (da_cons (de_v 0 rfl (.inl rfl)) da_nil)))))))
  · intro _
    exact kb_one F (by intros; rfl) (by intros; rfl)
def s_Reader_take_number : Sm := (sSeq (sSt (gN 1) (oToD (oCallN 1 f_number_of [] (aaV (oToD (oMethN 1 0 "Reader" "take" f_Reader_take [] aaN)) aaN)))) (sSeq (sEx (oMethN 2 0 "Reader" "fail_unless" f_Reader_fail_unless [] (aaV (eOp2 dIsNot (eV 1) (eK .none)) aaN))) (sRt (oD (eV 1)))))
def f_Reader_take_number : Md SV := callS 2 s_Reader_take_number
theorem sc_Reader_take_number : FnScope ["self", "number"] ["self"] (defScope st_Reader_take_number) := ⟨rfl, rfl, rfl, by decide +kernel, rfl, by decide +kernel, by decide +kernel⟩
theorem ok_Reader_take_number (Z : Fx P w K mg base CT tt) : OkD P w K mg base false 5 CT tt (He.ma K (He.ga K "Reader") "take_number") ["self"] 1 f_Reader_take_number := by
  obtain ⟨fd, F⟩ := Z.d_Reader_take_number
  obtain ⟨⟨fd_number_of, F_number_of, b_number_of, kb_number_of⟩, k_number_of⟩ := ok_number_of Z
  obtain ⟨⟨fd_Reader_take, F_Reader_take, b_Reader_take, kb_Reader_take⟩, k_Reader_take⟩ := ok_Reader_take Z
  obtain ⟨⟨fd_Reader_fail_unless, F_Reader_fail_unless, b_Reader_fail_unless, kb_Reader_fail_unless⟩, k_Reader_fail_unless⟩ := ok_Reader_fail_unless Z
  have scN := sc_Reader_take_number
  refine ⟨⟨fd, fn_ok (gb := false) F scN (fun cdv A outer s H E hr hp tk => ?_), F.bindsN (fun _ _ _ _ _ _ us hl => match us, hl with | [_], _ => rfl), ?_⟩, F.kp⟩
  · have hr_number_of : Rm false 2 _ := hr.mono (by decide)
    have hr_Reader_take : Rm false 4 _ := hr.mono (by decide)
    have hr_Reader_fail_unless : Rm false 3 _ := hr.mono (by decide)
    
    exact (ds_cons (ds_set 1 sc_Reader_take_number.nd rfl (.inl rfl) (de_o (do_call (fun _ _ _ z => z) rfl F_number_of hr_number_of tk rfl Z.g_number_of k_number_of b_number_of .nil (fun _ _ => .nil) (daa_val (de_o (do_meth0 (fun _ _ _ z => z) rfl Z.ct_Reader Z.cls_Reader Z.me_Reader_take F_Reader_take hr_Reader_take tk rfl (.inl rfl) b_Reader_take .nil (fun _ _ => .nil))) daa_nil))))
  (ds_cons (ds_expr (do_meth (fun _ _ _ z => z) rfl Z.ct_Reader Z.cls_Reader Z.me_Reader_fail_unless F_Reader_fail_unless hr_Reader_fail_unless tk rfl (.inl rfl) b_Reader_fail_unless .nil (fun _ _ => .nil) (daa_val (de_isn (de_v 1 rfl (.inl rfl)) de_non) daa_nil)))
  (ds_one (ds_ret (do_d (de_v 1 rfl (.inl rfl)))))))
  · intro _
    exact kb_one F (by intros; rfl) (by intros; rfl)
def s_Reader_stop : Sm := (sSeq (sFldAdd 0 "Reader" "held_count" (eK (.int 1))) (sEx (oMethN 2 0 "Reader" "fail_unless" f_Reader_fail_unless [] (aaV (eOp2 dGt (eFld 0 "Reader" "held_count") (eL dLen (aCons (eFld 0 "Reader" "held_words") aNil))) aaN))))
def f_Reader_stop : Md SV := callS 1 s_Reader_stop
theorem sc_Reader_stop : FnScope ["self"] ["self"] (defScope st_Reader_stop) := ⟨rfl, rfl, rfl, by decide +kernel, rfl, by decide +kernel, by decide +kernel⟩
theorem ok_Reader_stop (Z : Fx P w K mg base CT tt) : OkD P w K mg base false 4 CT tt (He.ma K (He.ga K "Reader") "stop") ["self"] 1 f_Reader_stop := by
  obtain ⟨fd, F⟩ := Z.d_Reader_stop
  obtain ⟨⟨fd_Reader_fail_unless, F_Reader_fail_unless, b_Reader_fail_unless, kb_Reader_fail_unless⟩, k_Reader_fail_unless⟩ := ok_Reader_fail_unless Z
  have scN := sc_Reader_stop
  refine ⟨⟨fd, fn_ok (gb := false) F scN (fun cdv A outer s H E hr hp tk => ?_), F.bindsN (fun _ _ _ _ _ _ us hl => match us, hl with | [_], _ => rfl), ?_⟩, F.kp⟩
  · have hr_Reader_fail_unless : Rm false 3 _ := hr.mono (by decide)
    
    exact (ds_cons (ds_fldadd 0 rfl Z.ct_Reader Z.cls_Reader Z.na_Reader_held_count rfl (.inl rfl) de_int)
  (ds_one (ds_expr (do_meth (fun _ _ _ z => z) rfl Z.ct_Reader Z.cls_Reader Z.me_Reader_fail_unless F_Reader_fail_unless hr_Reader_fail_unless tk rfl (.inl rfl) b_Reader_fail_unless .nil (fun _ _ => .nil) (daa_val (de_gt (de_fld 0 rfl Z.ct_Reader Z.cls_Reader Z.na_Reader_held_count rfl (.inl rfl)) (de_len rfl rfl Z.n_len bt_len (da_cons (de_fld 0 rfl Z.ct_Reader Z.cls_Reader Z.na_Reader_held_words rfl (.inl rfl)) da_nil))) daa_nil)))))
  · intro _
    exact kb_one F (by intros; rfl) (by intros; rfl)
def s_words_of_step : Sm := (sSeq (sSt (gT 3 (gsC (gN 1) (gsC (gN 2) (gsC (gN 3) gsN)))) (eV 0)) (sRt (oD (eIf (tCm dEq (eV 3) (eOp1 dNeg (eK (.int 1)))) (eJs [(eOp1 dFmt (eV 1)), (eK (.str " ")), (eOp1 dFmt (eV 2))] Str.empty) (eJs [(eOp1 dFmt (eV 1)), (eK (.str " ")), (eOp1 dFmt (eV 2)), (eK (.str " ")), (eOp1 dFmt (eV 3))] Str.empty)))))
def f_words_of_step : Md SV := callS 4 s_words_of_step
theorem sc_words_of_step : FnScope ["step", "process", "word", "number"] ["step"] (defScope st_words_of_step) := ⟨rfl, rfl, rfl, by decide +kernel, rfl, by decide +kernel, by decide +kernel⟩
theorem ok_words_of_step (Z : Fx P w K mg base CT tt) : OkD P w K mg base false 2 CT tt (He.ga K "words_of_step") ["step"] 1 f_words_of_step := by
  obtain ⟨fd, F⟩ := Z.d_words_of_step
  have scN := sc_words_of_step
  refine ⟨⟨fd, fn_ok (gb := false) F scN (fun cdv A outer s H E hr hp tk => ?_), F.bindsN (fun _ _ _ _ _ _ us hl => match us, hl with | [_], _ => rfl), ?_⟩, F.kp⟩
  · 
    exact (ds_cons (ds_asg (dg_tup rfl rfl (dgs_cons (dg_name 1 sc_words_of_step.nd rfl (.inl rfl)) (dgs_cons (dg_name 2 sc_words_of_step.nd rfl (.inl rfl)) (dgs_cons (dg_name 3 sc_words_of_step.nd rfl (.inl rfl)) dgs_nil)))) (de_v 0 rfl (.inl rfl)))
  (ds_one (ds_ret (do_d (de_if (dt_eq hr rfl (de_v 3 rfl (.inl rfl)) (de_neg de_int)) (de_js (.cons (de_fmt (de_v 1 rfl (.inl rfl))) (.cons de_str (.cons (de_fmt (de_v 2 rfl (.inl rfl))) .nil)))) (de_js (.cons (de_fmt (de_v 1 rfl (.inl rfl))) (.cons de_str (.cons (de_fmt (de_v 2 rfl (.inl rfl))) (.cons de_str (.cons (de_fmt (de_v 3 rfl (.inl rfl))) .nil)))))))))))
  · intro _
    exact kb_one F (by intros; rfl) (by intros; rfl)
def s_step_text : Sm := (sSeq (sEx (oCallN 2 f_want [] (aaV (oToD (oCallN 1 f_is_step [] (aaV (eV 0) aaN))) (aaV (eK (.str "step")) aaN)))) (sRt (oCallN 1 f_words_of_step [] (aaV (eV 0) aaN))))
def f_step_text : Md SV := callS 1 s_step_text
theorem sc_step_text : FnScope ["step"] ["step"] (defScope st_step_text) := ⟨rfl, rfl, rfl, by decide +kernel, rfl, by decide +kernel, by decide +kernel⟩
theorem ok_step_text (Z : Fx P w K mg base CT tt) : OkD P w K mg base false 5 CT tt (He.ga K "step_text") ["step"] 1 f_step_text := by
  obtain ⟨fd, F⟩ := Z.d_step_text
  obtain ⟨⟨fd_want, F_want, b_want, kb_want⟩, k_want⟩ := ok_want Z
  obtain ⟨⟨fd_is_step, F_is_step, b_is_step, kb_is_step⟩, k_is_step⟩ := ok_is_step Z
  obtain ⟨⟨fd_words_of_step, F_words_of_step, b_words_of_step, kb_words_of_step⟩, k_words_of_step⟩ := ok_words_of_step Z
  have scN := sc_step_text
  refine ⟨⟨fd, fn_ok (gb := false) F scN (fun cdv A outer s H E hr hp tk => ?_), F.bindsN (fun _ _ _ _ _ _ us hl => match us, hl with | [_], _ => rfl), ?_⟩, F.kp⟩
  · have hr_want : Rm false 3 _ := hr.mono (by decide)
    have hr_is_step : Rm false 4 _ := hr.mono (by decide)
    have hr_words_of_step : Rm false 2 _ := hr.mono (by decide)
    
    exact (ds_cons (ds_expr (do_call (fun _ _ _ z => z) rfl F_want hr_want tk rfl Z.g_want k_want b_want .nil (fun _ _ => .nil) (daa_val (de_o (do_call (fun _ _ _ z => z) rfl F_is_step hr_is_step tk rfl Z.g_is_step k_is_step b_is_step .nil (fun _ _ => .nil) (daa_val (de_v 0 rfl (.inl rfl)) daa_nil))) (daa_val de_str daa_nil))))
  (ds_one (ds_ret (do_call (fun _ _ _ z => z) rfl F_words_of_step hr_words_of_step tk rfl Z.g_words_of_step k_words_of_step b_words_of_step .nil (fun _ _ => .nil) (daa_val (de_v 0 rfl (.inl rfl)) daa_nil)))))
  · intro _
    exact kb_one F (by intros; rfl) (by intros; rfl)
def s_step_by : Sm := (sSeq (sSt (gN 1) (oToD (oMethN 1 0 "Reader" "take_number" f_Reader_take_number [] aaN))) (sSeq (sSt (gN 2) (oToD (oMethN 2 0 "Reader" "take_among" f_Reader_take_among [] (aaV (eOp2 dAdd (eK (.tuple [(.str "go"), (.str "aside")])) (eK (.tuple [(.str "copy"), (.str "start"), (.str "mark"), (.str "close"), (.str "read"), (.str "write"), (.str "wait"), (.str "end")]))) aaN)))) (sSeq (sSt (gN 3) (eIf (tCm dIn (eV 2) (eK (.tuple [(.str "go"), (.str "aside")]))) (oToD (oMethN 1 0 "Reader" "take_number" f_Reader_take_number [] aaN)) (eOp1 dNeg (eK (.int 1))))) (sSeq (sEx (oMethN 1 0 "Reader" "stop" f_Reader_stop [] aaN)) (sRt (oD (eL dTup (aCons (eV 1) (aCons (eV 2) (aCons (eV 3) aNil))))))))))
def f_step_by : Md SV := callS 4 s_step_by
theorem sc_step_by : FnScope ["reader", "process", "word", "number"] ["reader"] (defScope st_step_by) := ⟨rfl, rfl, rfl, by decide +kernel, rfl, by decide +kernel, by decide +kernel⟩
theorem ok_step_by (Z : Fx P w K mg base CT tt) : OkD P w K mg base false 6 CT tt (He.ga K "step_by") ["reader"] 1 f_step_by := by
  obtain ⟨fd, F⟩ := Z.d_step_by
  obtain ⟨⟨fd_Reader_take_number, F_Reader_take_number, b_Reader_take_number, kb_Reader_take_number⟩, k_Reader_take_number⟩ := ok_Reader_take_number Z
  obtain ⟨⟨fd_Reader_take_among, F_Reader_take_among, b_Reader_take_among, kb_Reader_take_among⟩, k_Reader_take_among⟩ := ok_Reader_take_among Z
  obtain ⟨⟨fd_Reader_stop, F_Reader_stop, b_Reader_stop, kb_Reader_stop⟩, k_Reader_stop⟩ := ok_Reader_stop Z
  have scN := sc_step_by
  refine ⟨⟨fd, fn_ok (gb := false) F scN (fun cdv A outer s H E hr hp tk => ?_), F.bindsN (fun _ _ _ _ _ _ us hl => match us, hl with | [_], _ => rfl), ?_⟩, F.kp⟩
  · have hr_Reader_take_number : Rm false 5 _ := hr.mono (by decide)
    have hr_Reader_take_among : Rm false 5 _ := hr.mono (by decide)
    have hr_Reader_stop : Rm false 4 _ := hr.mono (by decide)
    
    exact (ds_cons (ds_set 1 sc_step_by.nd rfl (.inl rfl) (de_o (do_meth0 (fun _ _ _ z => z) rfl Z.ct_Reader Z.cls_Reader Z.me_Reader_take_number F_Reader_take_number hr_Reader_take_number tk rfl (.inl rfl) b_Reader_take_number .nil (fun _ _ => .nil))))
  (ds_cons (ds_set 2 sc_step_by.nd rfl (.inl rfl) (de_o (do_meth (fun _ _ _ z => z) rfl Z.ct_Reader Z.cls_Reader Z.me_Reader_take_among F_Reader_take_among hr_Reader_take_among tk rfl (.inl rfl) b_Reader_take_among .nil (fun _ _ => .nil) (daa_val (de_add rfl (de_glo rfl rfl Z.w_NUMBERED) (de_glo rfl rfl Z.w_BARE)) daa_nil))))
  (ds_cons (ds_set 3 sc_step_by.nd rfl (.inl rfl) (de_if (dt_in hr rfl (de_v 2 rfl (.inl rfl)) (de_glo rfl rfl Z.w_NUMBERED)) (de_o (do_meth0 (fun _ _ _ z => z) rfl Z.ct_Reader Z.cls_Reader Z.me_Reader_take_number F_Reader_take_number hr_Reader_take_number tk rfl (.inl rfl) b_Reader_take_number .nil (fun _ _ => .nil))) (de_neg de_int)))
  (ds_cons (ds_expr (do_meth0 (fun _ _ _ z => z) rfl Z.ct_Reader Z.cls_Reader Z.me_Reader_stop F_Reader_stop hr_Reader_stop tk rfl (.inl rfl) b_Reader_stop .nil (fun _ _ => .nil)))
  (ds_one (ds_ret (do_d (de_tup (da_cons (de_v 1 rfl (.inl rfl)) (da_cons (de_v 2 rfl (.inl rfl)) (da_cons (de_v 3 rfl (.inl rfl)) da_nil)))))))))))
  · intro _
    exact kb_one F (by intros; rfl) (by intros; rfl)
def s_event_by : Sm := (sSeq (sSt (gN 1) (oToD (oMethN 2 0 "Reader" "take_among" f_Reader_take_among [] (aaV (eK (.tuple [(.str "step"), (.str "careful"), (.str "mark")])) aaN)))) (sSeq (sIf (tCm dEq (eV 1) (eK (.str "step"))) (sRt (oD (eL dTup (aCons (eV 1) (aCons (oToD (oCallN 1 f_step_by [] (aaL 0 aaN))) aNil))))) sNx) (sSeq (sSt (gN 2) (eIf (tCm dEq (eV 1) (eK (.str "careful"))) (oToD (oMethN 2 0 "Reader" "take_among" f_Reader_take_among [] (aaV (eK (.tuple [(.str "on"), (.str "off")])) aaN))) (oToD (oMethN 1 0 "Reader" "take_name" f_Reader_take_name [] aaN)))) (sSeq (sEx (oMethN 1 0 "Reader" "stop" f_Reader_stop [] aaN)) (sRt (oD (eL dTup (aCons (eV 1) (aCons (eV 2) aNil)))))))))
def f_event_by : Md SV := callS 3 s_event_by
theorem sc_event_by : FnScope ["reader", "kind", "what"] ["reader"] (defScope st_event_by) := ⟨rfl, rfl, rfl, by decide +kernel, rfl, by decide +kernel, by decide +kernel⟩
theorem ok_event_by (Z : Fx P w K mg base CT tt) : OkD P w K mg base false 7 CT tt (He.ga K "event_by") ["reader"] 1 f_event_by := by
  obtain ⟨fd, F⟩ := Z.d_event_by
  obtain ⟨⟨fd_Reader_take_among, F_Reader_take_among, b_Reader_take_among, kb_Reader_take_among⟩, k_Reader_take_among⟩ := ok_Reader_take_among Z
  obtain ⟨⟨fd_step_by, F_step_by, b_step_by, kb_step_by⟩, k_step_by⟩ := ok_step_by Z
  obtain ⟨⟨fd_Reader_take_name, F_Reader_take_name, b_Reader_take_name, kb_Reader_take_name⟩, k_Reader_take_name⟩ := ok_Reader_take_name Z
  obtain ⟨⟨fd_Reader_stop, F_Reader_stop, b_Reader_stop, kb_Reader_stop⟩, k_Reader_stop⟩ := ok_Reader_stop Z
  have scN := sc_event_by
  refine ⟨⟨fd, fn_ok (gb := false) F scN (fun cdv A outer s H E hr hp tk => ?_), F.bindsN (fun _ _ _ _ _ _ us hl => match us, hl with | [_], _ => rfl), ?_⟩, F.kp⟩
  · have hr_Reader_take_among : Rm false 5 _ := hr.mono (by decide)
    have hr_step_by : Rm false 6 _ := hr.mono (by decide)
    have hr_Reader_take_name : Rm false 5 _ := hr.mono (by decide)
    have hr_Reader_stop : Rm false 4 _ := hr.mono (by decide)
    
    exact (ds_cons (ds_set 1 sc_event_by.nd rfl (.inl rfl) (de_o (do_meth (fun _ _ _ z => z) rfl Z.ct_Reader Z.cls_Reader Z.me_Reader_take_among F_Reader_take_among hr_Reader_take_among tk rfl (.inl rfl) b_Reader_take_among .nil (fun _ _ => .nil) (daa_val (de_glo rfl rfl Z.w_EVENT_WORDS) daa_nil))))
  (ds_cons (ds_if (dt_eq hr rfl (de_v 1 rfl (.inl rfl)) de_str) (ds_one (ds_ret (do_d (de_tup (da_cons (de_v 1 rfl (.inl rfl)) (da_cons (de_o (do_call (fun _ _ _ z => z) rfl F_step_by hr_step_by tk rfl Z.g_step_by k_step_by b_step_by .nil (fun _ _ => .nil) (daa_lend 0 rfl (.inl rfl) daa_nil))) da_nil)))))) ds_nil)
  (ds_cons (ds_set 2 sc_event_by.nd rfl (.inl rfl) (de_if (dt_eq hr rfl (de_v 1 rfl (.inl rfl)) de_str) (de_o (do_meth (fun _ _ _ z => z) rfl Z.ct_Reader Z.cls_Reader Z.me_Reader_take_among F_Reader_take_among hr_Reader_take_among tk rfl (.inl rfl) b_Reader_take_among .nil (fun _ _ => .nil) (daa_val (de_glo rfl rfl Z.w_CAREFULS) daa_nil))) (de_o (do_meth0 (fun _ _ _ z => z) rfl Z.ct_Reader Z.cls_Reader Z.me_Reader_take_name F_Reader_take_name hr_Reader_take_name tk rfl (.inl rfl) b_Reader_take_name .nil (fun _ _ => .nil)))))
  (ds_cons (ds_expr (do_meth0 (fun _ _ _ z => z) rfl Z.ct_Reader Z.cls_Reader Z.me_Reader_stop F_Reader_stop hr_Reader_stop tk rfl (.inl rfl) b_Reader_stop .nil (fun _ _ => .nil)))
  (ds_one (ds_ret (do_d (de_tup (da_cons (de_v 1 rfl (.inl rfl)) (da_cons (de_v 2 rfl (.inl rfl)) da_nil))))))))))
  · intro _
    exact kb_one F (by intros; rfl) (by intros; rfl)
def s_read_event : Sm := (sSeq (sEx (oCallN 2 f_want [] (aaV (eOp1 (dIsi "str") (eV 0)) (aaV (eK (.str "text")) aaN)))) (sRt (oCallT 1 f_event_by [] (oNew 3 "Reader" f_Reader_init [] (aCons (eV 0) (aCons (eK (.int 0)) aNil))))))
def f_read_event : Md SV := callS 1 s_read_event
theorem sc_read_event : FnScope ["text"] ["text"] (defScope st_read_event) := ⟨rfl, rfl, rfl, by decide +kernel, rfl, by decide +kernel, by decide +kernel⟩
theorem ok_read_event (Z : Fx P w K mg base CT tt) : OkD P w K mg base false 8 CT tt (He.ga K "read_event") ["text"] 1 f_read_event := by
  obtain ⟨fd, F⟩ := Z.d_read_event
  obtain ⟨⟨fd_want, F_want, b_want, kb_want⟩, k_want⟩ := ok_want Z
  obtain ⟨⟨fd_event_by, F_event_by, b_event_by, kb_event_by⟩, k_event_by⟩ := ok_event_by Z
  obtain ⟨⟨fd_Reader_init, F_Reader_init, b_Reader_init, kb_Reader_init⟩, k_Reader_init⟩ := ok_Reader_init Z
  have scN := sc_read_event
  refine ⟨⟨fd, fn_ok (gb := false) F scN (fun cdv A outer s H E hr hp tk => ?_), F.bindsN (fun _ _ _ _ _ _ us hl => match us, hl with | [_], _ => rfl), ?_⟩, F.kp⟩
  · have hr_want : Rm false 3 _ := hr.mono (by decide)
    have hr_event_by : Rm false 7 _ := hr.mono (by decide)
    have hrn_Reader_init : Rm false 3 _ := hr.mono (by decide)
    
    exact (ds_cons (ds_expr (do_call (fun _ _ _ z => z) rfl F_want hr_want tk rfl Z.g_want k_want b_want .nil (fun _ _ => .nil) (daa_val (de_isi rfl rfl rfl Z.n_isinstance bt_isinstance rfl Z.n_str bt_str (de_v 0 rfl (.inl rfl))) (daa_val de_str daa_nil))))
  (ds_one (ds_ret (do_callT (fun _ _ _ z => z) rfl F_event_by hr_event_by tk rfl Z.g_event_by k_event_by b_event_by .nil (fun _ _ => .nil) (do_new (fun _ _ _ z => z) rfl Z.ct_Reader Z.mk_Reader F_Reader_init hrn_Reader_init tk rfl Z.g_Reader b_Reader_init .nil (fun _ _ => .nil) (da_cons (de_v 0 rfl (.inl rfl)) (da_cons de_int da_nil)))))))
  · intro _
    exact kb_one F (by intros; rfl) (by intros; rfl)
def s_line_of : Sm := (sSeq (sSt (gT 2 (gsC (gN 1) (gsC (gN 2) gsN))) (eV 0)) (sRt (oD (eIf (tCm dEq (eV 1) (eK (.str "step"))) (eJs [(eOp1 dFmt (eV 1)), (eK (.str " ")), (eOp1 dFmt (oToD (oCallN 1 f_step_text [] (aaV (eV 2) aaN))))] Str.empty) (eJs [(eOp1 dFmt (eV 1)), (eK (.str " ")), (eOp1 dFmt (eV 2))] Str.empty)))))
def f_line_of : Md SV := callS 3 s_line_of
theorem sc_line_of : FnScope ["event", "kind", "what"] ["event"] (defScope st_line_of) := ⟨rfl, rfl, rfl, by decide +kernel, rfl, by decide +kernel, by decide +kernel⟩
theorem ok_line_of (Z : Fx P w K mg base CT tt) : OkD P w K mg base false 6 CT tt (He.ga K "line_of") ["event"] 1 f_line_of := by
  obtain ⟨fd, F⟩ := Z.d_line_of
  obtain ⟨⟨fd_step_text, F_step_text, b_step_text, kb_step_text⟩, k_step_text⟩ := ok_step_text Z
  have scN := sc_line_of
  refine ⟨⟨fd, fn_ok (gb := false) F scN (fun cdv A outer s H E hr hp tk => ?_), F.bindsN (fun _ _ _ _ _ _ us hl => match us, hl with | [_], _ => rfl), ?_⟩, F.kp⟩
  · have hr_step_text : Rm false 5 _ := hr.mono (by decide)
    
    exact (ds_cons (ds_asg (dg_tup rfl rfl (dgs_cons (dg_name 1 sc_line_of.nd rfl (.inl rfl)) (dgs_cons (dg_name 2 sc_line_of.nd rfl (.inl rfl)) dgs_nil))) (de_v 0 rfl (.inl rfl)))
  (ds_one (ds_ret (do_d (de_if (dt_eq hr rfl (de_v 1 rfl (.inl rfl)) de_str) (de_js (.cons (de_fmt (de_v 1 rfl (.inl rfl))) (.cons de_str (.cons (de_fmt (de_o (do_call (fun _ _ _ z => z) rfl F_step_text hr_step_text tk rfl Z.g_step_text k_step_text b_step_text .nil (fun _ _ => .nil) (daa_val (de_v 2 rfl (.inl rfl)) daa_nil)))) .nil)))) (de_js (.cons (de_fmt (de_v 1 rfl (.inl rfl))) (.cons de_str (.cons (de_fmt (de_v 2 rfl (.inl rfl))) .nil)))))))))
  · intro _
    exact kb_one F (by intros; rfl) (by intros; rfl)
def s_event_line : Sm := (sSeq (sEx (oCallN 2 f_want [] (aaV (oToD (oCallN 1 f_is_event [] (aaV (eV 0) aaN))) (aaV (eK (.str "event")) aaN)))) (sRt (oCallN 1 f_line_of [] (aaV (eV 0) aaN))))
def f_event_line : Md SV := callS 1 s_event_line
theorem sc_event_line : FnScope ["event"] ["event"] (defScope st_event_line) := ⟨rfl, rfl, rfl, by decide +kernel, rfl, by decide +kernel, by decide +kernel⟩
theorem ok_event_line (Z : Fx P w K mg base CT tt) : OkD P w K mg base false 7 CT tt (He.ga K "event_line") ["event"] 1 f_event_line := by
  obtain ⟨fd, F⟩ := Z.d_event_line
  obtain ⟨⟨fd_want, F_want, b_want, kb_want⟩, k_want⟩ := ok_want Z
  obtain ⟨⟨fd_is_event, F_is_event, b_is_event, kb_is_event⟩, k_is_event⟩ := ok_is_event Z
  obtain ⟨⟨fd_line_of, F_line_of, b_line_of, kb_line_of⟩, k_line_of⟩ := ok_line_of Z
  have scN := sc_event_line
  refine ⟨⟨fd, fn_ok (gb := false) F scN (fun cdv A outer s H E hr hp tk => ?_), F.bindsN (fun _ _ _ _ _ _ us hl => match us, hl with | [_], _ => rfl), ?_⟩, F.kp⟩
  · have hr_want : Rm false 3 _ := hr.mono (by decide)
    have hr_is_event : Rm false 5 _ := hr.mono (by decide)
    have hr_line_of : Rm false 6 _ := hr.mono (by decide)
    
    exact (ds_cons (ds_expr (do_call (fun _ _ _ z => z) rfl F_want hr_want tk rfl Z.g_want k_want b_want .nil (fun _ _ => .nil) (daa_val (de_o (do_call (fun _ _ _ z => z) rfl F_is_event hr_is_event tk rfl Z.g_is_event k_is_event b_is_event .nil (fun _ _ => .nil) (daa_val (de_v 0 rfl (.inl rfl)) daa_nil))) (daa_val de_str daa_nil))))
  (ds_one (ds_ret (do_call (fun _ _ _ z => z) rfl F_line_of hr_line_of tk rfl Z.g_line_of k_line_of b_line_of .nil (fun _ _ => .nil) (daa_val (de_v 0 rfl (.inl rfl)) daa_nil)))))
  · intro _
    exact kb_one F (by intros; rfl) (by intros; rfl)
def s_law_feed : Sm := (sRt (oDsp (kCons "cells" (eLc (iOf itL (eSl (eV 0) pcN (pcS (eK (.int 63))))) ([(("_law_cell" : Str), 1)].map (·.2)) (gN 1) tYs (eL dInt (aCons (eV 1) aNil))) (kCons "spot" (eK (.int 0)) (kCons "left" (eK (.int 0)) (kCons "drawn" (eK (.int 0)) kNil))))))
def f_law_feed : Md SV := callS 2 s_law_feed
theorem sc_law_feed : FnScope ["_law_script", "_law_cell"] ["_law_script"] (defScope st_law_feed) := ⟨rfl, rfl, rfl, by decide +kernel, rfl, by decide +kernel, by decide +kernel⟩
theorem ok_law_feed (Z : Fx P w K mg base CT tt) : OkD P w K mg base true 2 CT tt (He.ga K "_law_feed") ["_law_script"] 1 f_law_feed := by
  obtain ⟨fd, F⟩ := Z.d_law_feed
  have scN := sc_law_feed
  refine ⟨⟨fd, fn_ok (gb := true) F scN (fun cdv A outer s H E hr hp tk => ?_), F.bindsN (fun _ _ _ _ _ _ us hl => match us, hl with | [_], _ => rfl), ?_⟩, F.kp⟩
  · 
    exact (ds_one (ds_ret (do_dsp (dps_cons (de_lc (own := [(("_law_cell" : Str), 1)]) (js := [1]) (by decide) rfl sc_law_feed.nd (di_list rfl (de_sl rfl (de_v 0 rfl (.inl rfl)) dp_none (dp_some de_int))) (blk_ok2 ["_law_script", "_law_cell"] (defScope st_law_feed) rfl rfl (by decide +kernel)) (fun s H C cl fp => (dg_name 1 sc_law_feed.nd rfl (.inl rfl))) (fun s H C cl fp => dts_nil) (fun s H C cl fp => (de_int1 rfl Z.n_int bt_int (da_cons (de_v 1 rfl (.inl rfl)) da_nil)))) (dps_cons de_int (dps_cons de_int (dps_cons de_int dps_nil)))))))
  · intro _
    exact kb_one F (by intros; rfl) (by intros; rfl)
def s_law_draw : Sm := (sSeq (sPar3 2 3 4 (aCons (eOp2 dAdd (eDget 0 (eK (.str "drawn"))) (eK (.int 1))) (aCons (eDget 0 (eK (.str "spot"))) (aCons (eDget 0 (eK (.str "cells"))) aNil)))) (sSeq (sDput 0 (eV 2) (eK (.str "drawn"))) (sSeq (sIf (tCm dGt (eDget 0 (eK (.str "left"))) (eK (.int 0))) (sSeq (sSt (gN 5) (eOp2 dMod (eL dInt (aCons (eDget 0 (eK (.str "left"))) aNil)) (eV 1))) (sSeq (sDput 0 (eOp2 dFdiv (eDget 0 (eK (.str "left"))) (eV 1)) (eK (.str "left"))) (sRt (oD (eV 5))))) sNx) (sSeq (sDput 0 (eOp2 dAdd (eV 3) (eK (.int 1))) (eK (.str "spot"))) (sSeq (sSt (gN 6) (eIf (tCm dNe (eV 4) (eL dLst aNil)) (eOp2 dIx (eV 4) (eOp2 dMod (eL dInt (aCons (eV 3) aNil)) (eL dLen (aCons (eV 4) aNil)))) (eK (.int 9964)))) (sSeq (sIf (tAn (tCm dGe (eV 6) (eOp2 dPow (eK (.int 10)) (eK (.int 18)))) (tCm dLt (eV 3) (eL dLen (aCons (eV 4) aNil)))) (sSeq (sDput 0 (eOp2 dFdiv (eV 6) (eV 1)) (eK (.str "left"))) (sRt (oD (eOp2 dMod (eL dInt (aCons (eV 6) aNil)) (eV 1))))) sNx) (sSeq (sSt (gN 7) (eOp2 dMod (eL dInt (aCons (eOp2 dAdd (eOp2 dAdd (eOp2 dMod (eL dInt (aCons (eV 6) aNil)) (eK (.int 1000000181))) (eOp2 dMul (eK (.int 79512)) (eV 2))) (eK (.int 716))) aNil)) (eK (.int 2147483647)))) (sSeq (sSt (gN 7) (eOp2 dMod (eL dInt (aCons (eOp2 dAdd (eOp2 dAdd (eOp2 dMul (eV 7) (eV 7)) (eOp2 dMul (eOp2 dMul (eK (.int 5741816)) (eV 2)) (eV 2))) (eK (.int 112))) aNil)) (eK (.int 2147483629)))) (sRt (oD (eOp2 dMod (eL dInt (aCons (eOp2 dFdiv (eOp2 dMod (eL dInt (aCons (eOp2 dAdd (eOp2 dMul (eV 7) (eV 7)) (eOp2 dMul (eK (.int 444)) (eV 7))) aNil)) (eK (.int 2147483587))) (eK (.int 32))) aNil)) (eV 1))))))))))))
def f_law_draw : Md SV := callS 8 s_law_draw
theorem sc_law_draw : FnScope ["_law_feed_here", "_law_many", "_law_drawn", "_law_spot", "_law_cells", "_law_figure", "_law_cell", "_law_mixed"] ["_law_feed_here", "_law_many"] (defScope st_law_draw) := ⟨rfl, rfl, rfl, by decide +kernel, rfl, by decide +kernel, by decide +kernel⟩
theorem ok_law_draw (Z : Fx P w K mg base CT tt) : OkD P w K mg base true 2 CT tt (He.ga K "_law_draw") ["_law_feed_here", "_law_many"] 2 f_law_draw := by
  obtain ⟨fd, F⟩ := Z.d_law_draw
  have scN := sc_law_draw
  refine ⟨⟨fd, fn_ok (gb := true) F scN (fun cdv A outer s H E hr hp tk => ?_), F.bindsN (fun _ _ _ _ _ _ us hl => match us, hl with | [_, _], _ => rfl), ?_⟩, F.kp⟩
  · 
    exact (ds_cons (ds_par3 rfl sc_law_draw.nd rfl rfl rfl (by decide) (by decide) (by decide) rfl rfl rfl (da_cons (de_add rfl (de_dget 0 hr rfl (.inl rfl) de_str (fun _ _ => rfl)) de_int) (da_cons (de_dget 0 hr rfl (.inl rfl) de_str (fun _ _ => rfl)) (da_cons (de_dget 0 hr rfl (.inl rfl) de_str (fun _ _ => rfl)) da_nil))) rfl)
  (ds_cons (ds_dput 0 hr rfl (.inl rfl) de_str (de_v 2 rfl (.inl rfl)))
  (ds_cons (ds_if (dt_gt (de_dget 0 hr rfl (.inl rfl) de_str (fun _ _ => rfl)) de_int) (ds_cons (ds_set 5 sc_law_draw.nd rfl (.inl rfl) (de_mod (de_int1 rfl Z.n_int bt_int (da_cons (de_dget 0 hr rfl (.inl rfl) de_str (fun _ _ => rfl)) da_nil)) (de_v 1 rfl (.inl rfl))))
  (ds_cons (ds_dput 0 hr rfl (.inl rfl) de_str (de_fdiv (de_dget 0 hr rfl (.inl rfl) de_str (fun _ _ => rfl)) (de_v 1 rfl (.inl rfl))))
  (ds_one (ds_ret (do_d (de_v 5 rfl (.inl rfl))))))) ds_nil)
  (ds_cons (ds_dput 0 hr rfl (.inl rfl) de_str (de_add rfl (de_v 3 rfl (.inl rfl)) de_int))
  (ds_cons (ds_set 6 sc_law_draw.nd rfl (.inl rfl) (de_if (dt_ne hr rfl (de_v 4 rfl (.inl rfl)) (de_lst da_nil)) (de_idx rfl (de_v 4 rfl (.inl rfl)) (de_mod (de_int1 rfl Z.n_int bt_int (da_cons (de_v 3 rfl (.inl rfl)) da_nil)) (de_len rfl rfl Z.n_len bt_len (da_cons (de_v 4 rfl (.inl rfl)) da_nil))) (fun _ _ => rfl)) de_int))
  (ds_cons (ds_if (PW.pt (dt_and (dt_ge (de_v 6 rfl (.inl rfl)) (de_pow de_int de_int)) (dt_and1 (dt_lt (de_v 3 rfl (.inl rfl)) (de_len rfl rfl Z.n_len bt_len (da_cons (de_v 4 rfl (.inl rfl)) da_nil)))))) (ds_cons (ds_dput 0 hr rfl (.inl rfl) de_str (de_fdiv (de_v 6 rfl (.inl rfl)) (de_v 1 rfl (.inl rfl))))
  (ds_one (ds_ret (do_d (de_mod (de_int1 rfl Z.n_int bt_int (da_cons (de_v 6 rfl (.inl rfl)) da_nil)) (de_v 1 rfl (.inl rfl))))))) ds_nil)
  (ds_cons (ds_set 7 sc_law_draw.nd rfl (.inl rfl) (de_mod (de_int1 rfl Z.n_int bt_int (da_cons (de_add rfl (de_add rfl (de_mod (de_int1 rfl Z.n_int bt_int (da_cons (de_v 6 rfl (.inl rfl)) da_nil)) de_int) (de_mul de_int (de_v 2 rfl (.inl rfl)))) de_int) da_nil)) de_int))
  (ds_cons (ds_set 7 sc_law_draw.nd rfl (.inl rfl) (de_mod (de_int1 rfl Z.n_int bt_int (da_cons (de_add rfl (de_add rfl (de_mul (de_v 7 rfl (.inl rfl)) (de_v 7 rfl (.inl rfl))) (de_mul (de_mul de_int (de_v 2 rfl (.inl rfl))) (de_v 2 rfl (.inl rfl)))) de_int) da_nil)) de_int))
  (ds_one (ds_ret (do_d (de_mod (de_int1 rfl Z.n_int bt_int (da_cons (de_fdiv (de_mod (de_int1 rfl Z.n_int bt_int (da_cons (de_add rfl (de_mul (de_v 7 rfl (.inl rfl)) (de_v 7 rfl (.inl rfl))) (de_mul de_int (de_v 7 rfl (.inl rfl)))) da_nil)) de_int) de_int) da_nil)) (de_v 1 rfl (.inl rfl))))))))))))))
  · exact fun z => absurd z (by decide)
def s_law_any : Sm := (sRt (oD (eOp2 dIx (eV 1) (oToD (oCallN 2 f_law_draw [] (aaL 0 (aaV (eL dLen (aCons (eV 1) aNil)) aaN)))))))
def f_law_any : Md SV := callS 2 s_law_any
theorem sc_law_any : FnScope ["_law_feed_here", "_law_some"] ["_law_feed_here", "_law_some"] (defScope st_law_any) := ⟨rfl, rfl, rfl, by decide +kernel, rfl, by decide +kernel, by decide +kernel⟩
theorem ok_law_any (Z : Fx P w K mg base CT tt) : OkD P w K mg base true 3 CT tt (He.ga K "_law_any") ["_law_feed_here", "_law_some"] 2 f_law_any := by
  obtain ⟨fd, F⟩ := Z.d_law_any
  obtain ⟨⟨fd_law_draw, F_law_draw, b_law_draw, kb_law_draw⟩, k_law_draw⟩ := ok_law_draw Z
  have scN := sc_law_any
  refine ⟨⟨fd, fn_ok (gb := true) F scN (fun cdv A outer s H E hr hp tk => ?_), F.bindsN (fun _ _ _ _ _ _ us hl => match us, hl with | [_, _], _ => rfl), ?_⟩, F.kp⟩
  · have hr_law_draw : Rm true 2 _ := hr.mono (by decide)
    
    exact (ds_one (ds_ret (do_d (de_idx rfl (de_v 1 rfl (.inl rfl)) (de_o (do_call (fun _ _ _ z => z) rfl F_law_draw hr_law_draw tk rfl Z.g__law_draw k_law_draw b_law_draw .nil (fun _ _ => .nil) (daa_lend 0 rfl (.inl rfl) (daa_val (de_len rfl rfl Z.n_len bt_len (da_cons (de_v 1 rfl (.inl rfl)) da_nil)) daa_nil)))) (fun _ _ => rfl)))))
  · exact fun z => absurd z (by decide)
def s_law_names : Sm := (sSeq (sSt (gN 1) (eL dLst (aCons (eL dLst (aCons (eK (.str "a")) (aCons (eK (.str "b")) (aCons (eK (.str "c")) (aCons (eK (.str "d")) (aCons (eK (.str "e")) aNil)))))) (aCons (eL dLst (aCons (eK (.str "main")) (aCons (eK (.str "kid")) (aCons (eK (.str "server")) (aCons (eK (.str "k")) (aCons (eK (.str "ma")) aNil)))))) (aCons (eL dLst (aCons (eK (.str "house")) (aCons (eK (.str "mark")) (aCons (eK (.str "on")) (aCons (eK (.str "copy")) (aCons (eK (.str "undo")) aNil)))))) aNil))))) (sSeq (sSt (gN 1) (eOp2 dAdd (eV 1) (eL dLst (aCons (eL dLst (aCons (eK (.str "zzzzzzzz")) (aCons (eK (.str "zzzzzzzy")) (aCons (eK (.str "z")) (aCons (eK (.str "zz")) (aCons (eK (.str "y")) aNil)))))) (aCons (eL dLst (aCons (eK (.str "role")) (aCons (eK (.str "aside")) (aCons (eK (.str "begin")) (aCons (eK (.str "step")) (aCons (eK (.str "end")) aNil)))))) aNil))))) (sSeq (sSt (gN 1) (eOp2 dAdd (eV 1) (eL dLst (aCons (eL dLst (aCons (eK (.str "aaab")) (aCons (eK (.str "aaba")) (aCons (eK (.str "abaa")) (aCons (eK (.str "baaa")) (aCons (eK (.str "aaaa")) aNil)))))) (aCons (eL dLst (aCons (eK (.str "story")) (aCons (eK (.str "careful")) (aCons (eK (.str "off")) (aCons (eK (.str "left")) (aCons (eK (.str "write")) aNil)))))) aNil))))) (sSeq (sSt (gT 3 (gsC (gN 2) (gsC (gN 3) (gsC (gN 4) gsN)))) (eL dTup (aCons (oToD (oCallN 2 f_law_any [] (aaL 0 (aaV (eV 1) aaN)))) (aCons (oToD (oCallN 2 f_law_draw [] (aaL 0 (aaV (eK (.int 5)) aaN)))) (aCons (eOp2 dAdd (eK (.int 1)) (oToD (oCallN 2 f_law_draw [] (aaL 0 (aaV (eK (.int 4)) aaN))))) aNil))))) (sRt (oD (eLc (iOfL itR1 (aCons (eK (.int 5)) aNil)) ([(("_law_k" : Str), 5)].map (·.2)) (gN 5) tYs (eOp2 dIx (eV 2) (eOp2 dMod (eL dInt (aCons (eOp2 dAdd (eV 3) (eOp2 dMul (eV 5) (eV 4))) aNil)) (eK (.int 5)))))))))))
def f_law_names : Md SV := callS 6 s_law_names
theorem sc_law_names : FnScope ["_law_feed_here", "_law_pools", "_law_pool", "_law_start", "_law_stride", "_law_k"] ["_law_feed_here"] (defScope st_law_names) := ⟨rfl, rfl, rfl, by decide +kernel, rfl, by decide +kernel, by decide +kernel⟩
theorem ok_law_names (Z : Fx P w K mg base CT tt) : OkD P w K mg base true 4 CT tt (He.ga K "_law_names") ["_law_feed_here"] 1 f_law_names := by
  obtain ⟨fd, F⟩ := Z.d_law_names
  obtain ⟨⟨fd_law_draw, F_law_draw, b_law_draw, kb_law_draw⟩, k_law_draw⟩ := ok_law_draw Z
  obtain ⟨⟨fd_law_any, F_law_any, b_law_any, kb_law_any⟩, k_law_any⟩ := ok_law_any Z
  have scN := sc_law_names
  refine ⟨⟨fd, fn_ok (gb := true) F scN (fun cdv A outer s H E hr hp tk => ?_), F.bindsN (fun _ _ _ _ _ _ us hl => match us, hl with | [_], _ => rfl), ?_⟩, F.kp⟩
  · have hr_law_draw : Rm true 2 _ := hr.mono (by decide)
    have hr_law_any : Rm true 3 _ := hr.mono (by decide)
    
    exact (ds_cons (ds_set 1 sc_law_names.nd rfl (.inl rfl) (de_lst (da_cons (de_lst (da_cons de_str (da_cons de_str (da_cons de_str (da_cons de_str (da_cons de_str da_nil)))))) (da_cons (de_lst (da_cons de_str (da_cons de_str (da_cons de_str (da_cons de_str (da_cons de_str da_nil)))))) (da_cons (de_lst (da_cons de_str (da_cons de_str (da_cons de_str (da_cons de_str (da_cons de_str da_nil)))))) da_nil)))))
  (ds_cons (ds_set 1 sc_law_names.nd rfl (.inl rfl) (de_add rfl (de_v 1 rfl (.inl rfl)) (de_lst (da_cons (de_lst (da_cons de_str (da_cons de_str (da_cons de_str (da_cons de_str (da_cons de_str da_nil)))))) (da_cons (de_lst (da_cons de_str (da_cons de_str (da_cons de_str (da_cons de_str (da_cons de_str da_nil)))))) da_nil)))))
  (ds_cons (ds_set 1 sc_law_names.nd rfl (.inl rfl) (de_add rfl (de_v 1 rfl (.inl rfl)) (de_lst (da_cons (de_lst (da_cons de_str (da_cons de_str (da_cons de_str (da_cons de_str (da_cons de_str da_nil)))))) (da_cons (de_lst (da_cons de_str (da_cons de_str (da_cons de_str (da_cons de_str (da_cons de_str da_nil)))))) da_nil)))))
  (ds_cons (ds_asg (dg_tup rfl rfl (dgs_cons (dg_name 2 sc_law_names.nd rfl (.inr rfl)) (dgs_cons (dg_name 3 sc_law_names.nd rfl (.inr rfl)) (dgs_cons (dg_name 4 sc_law_names.nd rfl (.inr rfl)) dgs_nil)))) (de_tup (da_cons (de_o (do_call (fun _ _ _ z => z) rfl F_law_any hr_law_any tk rfl Z.g__law_any k_law_any b_law_any .nil (fun _ _ => .nil) (daa_lend 0 rfl (.inl rfl) (daa_val (de_v 1 rfl (.inl rfl)) daa_nil)))) (da_cons (de_o (do_call (fun _ _ _ z => z) rfl F_law_draw hr_law_draw tk rfl Z.g__law_draw k_law_draw b_law_draw .nil (fun _ _ => .nil) (daa_lend 0 rfl (.inl rfl) (daa_val de_int daa_nil)))) (da_cons (de_add rfl de_int (de_o (do_call (fun _ _ _ z => z) rfl F_law_draw hr_law_draw tk rfl Z.g__law_draw k_law_draw b_law_draw .nil (fun _ _ => .nil) (daa_lend 0 rfl (.inl rfl) (daa_val de_int daa_nil))))) da_nil)))))
  (ds_one (ds_ret (do_d (de_lc (own := [(("_law_k" : Str), 5)]) (js := [5]) (by decide) rfl sc_law_names.nd (di_rng1 rfl Z.n_range (da_cons de_int da_nil)) (blk_ok2 ["_law_feed_here", "_law_pools", "_law_pool", "_law_start", "_law_stride", "_law_k"] (defScope st_law_names) rfl rfl (by decide +kernel)) (fun s H C cl fp => (dg_name 5 sc_law_names.nd rfl (.inl rfl))) (fun s H C cl fp => dts_nil) (fun s H C cl fp => (de_idx rfl (de_v 2 rfl (.inr (.inl rfl))) (de_mod (de_int1 rfl Z.n_int bt_int (da_cons (de_add rfl (de_v 3 rfl (.inr (.inl rfl))) (de_mul (de_v 5 rfl (.inl rfl)) (de_v 4 rfl (.inr (.inl rfl))))) da_nil)) de_int) (fun _ _ => rfl)))))))))))
  · intro _
    exact kb_one F (by intros; rfl) (by intros; rfl)
def s_law_strange : Sm := (sSeq (sSt (gN 1) (eL dLst (aCons (eK .none) (aCons (eK (.bool true)) (aCons (eK (.bool false)) (aCons (eK (.int 0)) (aCons (eK (.int 1)) (aCons (eOp1 dNeg (eK (.int 1))) (aCons (eOp2 dPow (eK (.int 10)) (eK (.int 59))) (aCons (eK (.str "")) (aCons (eK (.str "a")) (aCons (eK (.str "abcdefgh")) (aCons (eK (.str "abcdefghi")) (aCons (eK (.str "A")) (aCons (eK (.str "a b")) (aCons (eK (.str "on")) (aCons (eK (.str "off")) aNil))))))))))))))))) (sSeq (sSt (gN 1) (eOp2 dAdd (eV 1) (eL dLst (aCons (eK (.str "step")) (aCons (eK (.str "mark")) (aCons (eK (.str "careful")) (aCons (eK (.str "house")) (aCons (eK (.str "open")) (aCons (eK (.str "none")) (aCons (eL dTup aNil) (aCons (eL dLst aNil) (aCons (eL dTup (aCons (eK (.str "a")) aNil)) (aCons (eL dTup (aCons (eK (.int 0)) (aCons (eK (.str "go")) (aCons (eK (.int 1)) aNil)))) (aCons (eL dTup (aCons (eK (.int 0)) (aCons (eK (.str "end")) (aCons (eOp1 dNeg (eK (.int 1))) aNil)))) aNil)))))))))))))) (sSeq (sSt (gN 1) (eOp2 dAdd (eV 1) (eL dLst (aCons (eL dTup (aCons (eK (.int 0)) (aCons (eK (.str "end")) (aCons (eK (.int 0)) aNil)))) (aCons (eL dTup (aCons (eK (.int 0)) (aCons (eK (.str "stay")) (aCons (eOp1 dNeg (eK (.int 1))) aNil)))) (aCons (eL dLst (aCons (eK (.int 0)) (aCons (eK (.str "end")) (aCons (eOp1 dNeg (eK (.int 1))) aNil)))) (aCons (eL dTup (aCons (eK (.bool true)) (aCons (eK (.str "end")) (aCons (eOp1 dNeg (eK (.int 1))) aNil)))) (aCons (eL dTup (aCons (eK (.int 0)) (aCons (eK (.str "go")) (aCons (eOp1 dNeg (eK (.int 1))) aNil)))) (aCons (eL dTup (aCons (eK (.int 0)) (aCons (eK (.str "go")) (aCons (eK (.bool true)) aNil)))) aNil))))))))) (sSeq (sSt (gN 1) (eOp2 dAdd (eV 1) (eL dLst (aCons (eL dTup (aCons (eK (.str "step")) (aCons (eL dTup (aCons (eK (.int 0)) (aCons (eK (.str "end")) (aCons (eOp1 dNeg (eK (.int 1))) aNil)))) aNil))) (aCons (eL dLst (aCons (eK (.str "mark")) (aCons (eK (.str "a")) aNil))) (aCons (eL dTup (aCons (eK (.str "mark")) (aCons (eK (.str "a")) aNil))) (aCons (eL dTup (aCons (eK (.str "careful")) (aCons (eK (.str "on")) aNil))) (aCons (eL dTup (aCons (eK (.str "mark")) (aCons (eK (.str "a")) (aCons (eK (.str "b")) aNil)))) aNil)))))))) (sSeq (sSt (gN 1) (eOp2 dAdd (eV 1) (eL dLst (aCons (eL dTup (aCons (eK (.str "house")) (aCons (eK (.str "a")) (aCons (eK (.str "on")) aNil)))) (aCons (eL dTup (aCons (eL dTup (aCons (eK (.str "open")) (aCons (eK (.str "open")) aNil))) (aCons (eL dTup (aCons (eL dTup (aCons (eK (.str "a")) (aCons (eL dTup (aCons (eL dTup (aCons (eK (.str "end")) aNil)) aNil)) (aCons (eL dTup aNil) aNil)))) aNil)) aNil))) (aCons (eL dTup (aCons (eK (.str "open")) (aCons (eK (.str "marked")) aNil))) (aCons (eL dTup (aCons (eL dTup (aCons (eK (.str "end")) aNil)) aNil)) aNil))))))) (sRt (oCallN 2 f_law_any [] (aaL 0 (aaV (eV 1) aaN)))))))))
def f_law_strange : Md SV := callS 2 s_law_strange
theorem sc_law_strange : FnScope ["_law_feed_here", "_law_some"] ["_law_feed_here"] (defScope st_law_strange) := ⟨rfl, rfl, rfl, by decide +kernel, rfl, by decide +kernel, by decide +kernel⟩
theorem ok_law_strange (Z : Fx P w K mg base CT tt) : OkD P w K mg base true 4 CT tt (He.ga K "_law_strange") ["_law_feed_here"] 1 f_law_strange := by
  obtain ⟨fd, F⟩ := Z.d_law_strange
  obtain ⟨⟨fd_law_any, F_law_any, b_law_any, kb_law_any⟩, k_law_any⟩ := ok_law_any Z
  have scN := sc_law_strange
  refine ⟨⟨fd, fn_ok (gb := true) F scN (fun cdv A outer s H E hr hp tk => ?_), F.bindsN (fun _ _ _ _ _ _ us hl => match us, hl with | [_], _ => rfl), ?_⟩, F.kp⟩
  · have hr_law_any : Rm true 3 _ := hr.mono (by decide)
    
    exact (ds_cons (ds_set 1 sc_law_strange.nd rfl (.inl rfl) (de_lst (da_cons de_non (da_cons de_bl (da_cons de_bl (da_cons de_int (da_cons de_int (da_cons (de_neg de_int) (da_cons (de_pow de_int de_int) (da_cons de_str (da_cons de_str (da_cons de_str (da_cons de_str (da_cons de_str (da_cons de_str (da_cons de_str (da_cons de_str da_nil)))))))))))))))))
  (ds_cons (ds_set 1 sc_law_strange.nd rfl (.inl rfl) (de_add rfl (de_v 1 rfl (.inl rfl)) (de_lst (da_cons de_str (da_cons de_str (da_cons de_str (da_cons de_str (da_cons de_str (da_cons de_str (da_cons (de_tup da_nil) (da_cons (de_lst da_nil) (da_cons (de_tup (da_cons de_str da_nil)) (da_cons (de_tup (da_cons de_int (da_cons de_str (da_cons de_int da_nil)))) (da_cons (de_tup (da_cons de_int (da_cons de_str (da_cons (de_neg de_int) da_nil)))) da_nil))))))))))))))
  (ds_cons (ds_set 1 sc_law_strange.nd rfl (.inl rfl) (de_add rfl (de_v 1 rfl (.inl rfl)) (de_lst (da_cons (de_tup (da_cons de_int (da_cons de_str (da_cons de_int da_nil)))) (da_cons (de_tup (da_cons de_int (da_cons de_str (da_cons (de_neg de_int) da_nil)))) (da_cons (de_lst (da_cons de_int (da_cons de_str (da_cons (de_neg de_int) da_nil)))) (da_cons (de_tup (da_cons de_bl (da_cons de_str (da_cons (de_neg de_int) da_nil)))) (da_cons (de_tup (da_cons de_int (da_cons de_str (da_cons (de_neg de_int) da_nil)))) (da_cons (de_tup (da_cons de_int (da_cons de_str (da_cons de_bl da_nil)))) da_nil)))))))))
  (ds_cons (ds_set 1 sc_law_strange.nd rfl (.inl rfl) (de_add rfl (de_v 1 rfl (.inl rfl)) (de_lst (da_cons (de_tup (da_cons de_str (da_cons (de_tup (da_cons de_int (da_cons de_str (da_cons (de_neg de_int) da_nil)))) da_nil))) (da_cons (de_lst (da_cons de_str (da_cons de_str da_nil))) (da_cons (de_tup (da_cons de_str (da_cons de_str da_nil))) (da_cons (de_tup (da_cons de_str (da_cons de_str da_nil))) (da_cons (de_tup (da_cons de_str (da_cons de_str (da_cons de_str da_nil)))) da_nil))))))))
  (ds_cons (ds_set 1 sc_law_strange.nd rfl (.inl rfl) (de_add rfl (de_v 1 rfl (.inl rfl)) (de_lst (da_cons (de_tup (da_cons de_str (da_cons de_str (da_cons de_str da_nil)))) (da_cons (de_tup (da_cons (de_tup (da_cons de_str (da_cons de_str da_nil))) (da_cons (de_tup (da_cons (de_tup (da_cons de_str (da_cons (de_tup (da_cons (de_tup (da_cons de_str da_nil)) da_nil)) (da_cons (de_tup da_nil) da_nil)))) da_nil)) da_nil))) (da_cons (de_tup (da_cons de_str (da_cons de_str da_nil))) (da_cons (de_tup (da_cons (de_tup (da_cons de_str da_nil)) da_nil)) da_nil)))))))
  (ds_one (ds_ret (do_call (fun _ _ _ z => z) rfl F_law_any hr_law_any tk rfl Z.g__law_any k_law_any b_law_any .nil (fun _ _ => .nil) (daa_lend 0 rfl (.inl rfl) (daa_val (de_v 1 rfl (.inl rfl)) daa_nil))))))))))
  · intro _
    exact kb_one F (by intros; rfl) (by intros; rfl)
def s_law_is_number : Sm := (sRt (oD (eAn (eOp1 (dIsi "int") (eV 0)) (eAn (eNt (eOp1 (dIsi "bool") (eV 0))) (eOp2 dGe (eV 0) (eK (.int 0)))))))
def f_law_is_number : Md SV := callS 1 s_law_is_number
theorem sc_law_is_number : FnScope ["_law_item"] ["_law_item"] (defScope st_law_is_number) := ⟨rfl, rfl, rfl, by decide +kernel, rfl, by decide +kernel, by decide +kernel⟩
theorem ok_law_is_number (Z : Fx P w K mg base CT tt) : OkD P w K mg base true 2 CT tt (He.ga K "_law_is_number") ["_law_item"] 1 f_law_is_number := by
  obtain ⟨fd, F⟩ := Z.d_law_is_number
  have scN := sc_law_is_number
  refine ⟨⟨fd, fn_ok (gb := true) F scN (fun cdv A outer s H E hr hp tk => ?_), F.bindsN (fun _ _ _ _ _ _ us hl => match us, hl with | [_], _ => rfl), ?_⟩, F.kp⟩
  · 
    exact (ds_one (ds_ret (do_d (de_and (de_isi rfl rfl rfl Z.n_isinstance bt_isinstance rfl Z.n_int bt_int (de_v 0 rfl (.inl rfl))) (de_and (de_not (de_isi rfl rfl rfl Z.n_isinstance bt_isinstance rfl Z.n_bool bt_bool (de_v 0 rfl (.inl rfl)))) (de_one (de_ge (de_v 0 rfl (.inl rfl)) de_int)))))))
  · intro _
    exact kb_one F (by intros; rfl) (by intros; rfl)
def s_law_is_name : Sm := (sSeq (sIf (tOr (tNt (tB (eOp1 (dIsi "str") (eV 0)) truthS)) (tNt (tCh dLe dLe (eK (.int 1)) (eL dLen (aCons (eV 0) aNil)) (eK (.int 8))))) (sRt (oD (eK (.bool false)))) sNx) (sRt (oD (eOp2 dEq (eLc (iOf itS (eV 0)) ([(("_law_sign" : Str), 1)].map (·.2)) (gN 1) (tCm dNotIn (eV 1) (eK (.str "abcdefghijklmnopqrstuvwxyz"))) (eV 1)) (eL dLst aNil)))))
def f_law_is_name : Md SV := callS 2 s_law_is_name
theorem sc_law_is_name : FnScope ["_law_item", "_law_sign"] ["_law_item"] (defScope st_law_is_name) := ⟨rfl, rfl, rfl, by decide +kernel, rfl, by decide +kernel, by decide +kernel⟩
theorem ok_law_is_name (Z : Fx P w K mg base CT tt) : OkD P w K mg base true 2 CT tt (He.ga K "_law_is_name") ["_law_item"] 1 f_law_is_name := by
  obtain ⟨fd, F⟩ := Z.d_law_is_name
  have scN := sc_law_is_name
  refine ⟨⟨fd, fn_ok (gb := true) F scN (fun cdv A outer s H E hr hp tk => ?_), F.bindsN (fun _ _ _ _ _ _ us hl => match us, hl with | [_], _ => rfl), ?_⟩, F.kp⟩
  · 
    exact (ds_cons (ds_if (PW.pt (dt_or (dt_not (dt_tr (de_isi rfl rfl rfl Z.n_isinstance bt_isinstance rfl Z.n_str bt_str (de_v 0 rfl (.inl rfl))) rfl)) (dt_or1 (dt_not (dt_ch op_le op_le o_le o_le de_int (de_len rfl rfl Z.n_len bt_len (da_cons (de_v 0 rfl (.inl rfl)) da_nil)) de_int))))) (ds_one (ds_ret (do_d de_bl))) ds_nil)
  (ds_one (ds_ret (do_d (de_eq hr rfl (de_lc (own := [(("_law_sign" : Str), 1)]) (js := [1]) (by decide) rfl sc_law_is_name.nd (di_str (de_v 0 rfl (.inl rfl))) (blk_ok2 ["_law_item", "_law_sign"] (defScope st_law_is_name) rfl rfl (by decide +kernel)) (fun s H C cl fp => (dg_name 1 sc_law_is_name.nd rfl (.inl rfl))) (fun s H C cl fp => (dts_one (dt_nin hr rfl (de_v 1 rfl (.inl rfl)) de_str))) (fun s H C cl fp => (de_v 1 rfl (.inl rfl)))) (de_lst da_nil))))))
  · intro _
    exact kb_one F (by intros; rfl) (by intros; rfl)
def s_law_is_step : Sm := (sSeq (sIf (tOr (tNt (tB (eOp1 (dIsi "tuple") (eV 0)) truthS)) (tOr (tCm dNe (eL dLen (aCons (eV 0) aNil)) (eK (.int 3))) (tNt (tB (oToD (oCallN 1 f_law_is_number [] (aaV (eOp2 dIx (eV 0) (eK (.int 0))) aaN))) truthS)))) (sRt (oD (eK (.bool false)))) sNx) (sSeq (sIf (tNt (tB (eOp1 (dIsi "str") (eOp2 dIx (eV 0) (eK (.int 1)))) truthS)) (sRt (oD (eK (.bool false)))) sNx) (sSeq (sIf (tCm dIn (eOp2 dIx (eV 0) (eK (.int 1))) (eL dTup (aCons (eK (.str "go")) (aCons (eK (.str "aside")) aNil)))) (sRt (oCallN 1 f_law_is_number [] (aaV (eOp2 dIx (eV 0) (eK (.int 2))) aaN))) sNx) (sSeq (sIf (tCm dNotIn (eOp2 dIx (eV 0) (eK (.int 1))) (eL dTup (aCons (eK (.str "copy")) (aCons (eK (.str "start")) (aCons (eK (.str "mark")) (aCons (eK (.str "close")) (aCons (eK (.str "read")) (aCons (eK (.str "write")) (aCons (eK (.str "wait")) (aCons (eK (.str "end")) aNil)))))))))) (sRt (oD (eK (.bool false)))) sNx) (sRt (oD (eAn (eOp1 (dIsi "int") (eOp2 dIx (eV 0) (eK (.int 2)))) (eAn (eNt (eOp1 (dIsi "bool") (eOp2 dIx (eV 0) (eK (.int 2))))) (eOp2 dEq (eOp2 dIx (eV 0) (eK (.int 2))) (eOp1 dNeg (eK (.int 1))))))))))))
def f_law_is_step : Md SV := callS 1 s_law_is_step
theorem sc_law_is_step : FnScope ["_law_item"] ["_law_item"] (defScope st_law_is_step) := ⟨rfl, rfl, rfl, by decide +kernel, rfl, by decide +kernel, by decide +kernel⟩
theorem ok_law_is_step (Z : Fx P w K mg base CT tt) : OkD P w K mg base true 3 CT tt (He.ga K "_law_is_step") ["_law_item"] 1 f_law_is_step := by
  obtain ⟨fd, F⟩ := Z.d_law_is_step
  obtain ⟨⟨fd_law_is_number, F_law_is_number, b_law_is_number, kb_law_is_number⟩, k_law_is_number⟩ := ok_law_is_number Z
  have scN := sc_law_is_step
  refine ⟨⟨fd, fn_ok (gb := true) F scN (fun cdv A outer s H E hr hp tk => ?_), F.bindsN (fun _ _ _ _ _ _ us hl => match us, hl with | [_], _ => rfl), ?_⟩, F.kp⟩
  · have hr_law_is_number : Rm true 2 _ := hr.mono (by decide)
    
    exact (ds_cons (ds_if (PW.pt (dt_or (dt_not (dt_tr (de_isi rfl rfl rfl Z.n_isinstance bt_isinstance rfl Z.n_tuple bt_tuple (de_v 0 rfl (.inl rfl))) rfl)) (dt_or (dt_ne hr rfl (de_len rfl rfl Z.n_len bt_len (da_cons (de_v 0 rfl (.inl rfl)) da_nil)) de_int) (dt_or1 (dt_not (dt_tr (de_o (do_call (fun _ _ _ z => z) rfl F_law_is_number hr_law_is_number tk rfl Z.g__law_is_number k_law_is_number b_law_is_number .nil (fun _ _ => .nil) (daa_val (de_idx rfl (de_v 0 rfl (.inl rfl)) de_int (fun _ _ => rfl)) daa_nil))) rfl)))))) (ds_one (ds_ret (do_d de_bl))) ds_nil)
  (ds_cons (ds_if (dt_not (dt_tr (de_isi rfl rfl rfl Z.n_isinstance bt_isinstance rfl Z.n_str bt_str (de_idx rfl (de_v 0 rfl (.inl rfl)) de_int (fun _ _ => rfl))) rfl)) (ds_one (ds_ret (do_d de_bl))) ds_nil)
  (ds_cons (ds_if (dt_in hr rfl (de_idx rfl (de_v 0 rfl (.inl rfl)) de_int (fun _ _ => rfl)) (de_tup (da_cons de_str (da_cons de_str da_nil)))) (ds_one (ds_ret (do_call (fun _ _ _ z => z) rfl F_law_is_number hr_law_is_number tk rfl Z.g__law_is_number k_law_is_number b_law_is_number .nil (fun _ _ => .nil) (daa_val (de_idx rfl (de_v 0 rfl (.inl rfl)) de_int (fun _ _ => rfl)) daa_nil)))) ds_nil)
  (ds_cons (ds_if (dt_nin hr rfl (de_idx rfl (de_v 0 rfl (.inl rfl)) de_int (fun _ _ => rfl)) (de_tup (da_cons de_str (da_cons de_str (da_cons de_str (da_cons de_str (da_cons de_str (da_cons de_str (da_cons de_str (da_cons de_str da_nil)))))))))) (ds_one (ds_ret (do_d de_bl))) ds_nil)
  (ds_one (ds_ret (do_d (de_and (de_isi rfl rfl rfl Z.n_isinstance bt_isinstance rfl Z.n_int bt_int (de_idx rfl (de_v 0 rfl (.inl rfl)) de_int (fun _ _ => rfl))) (de_and (de_not (de_isi rfl rfl rfl Z.n_isinstance bt_isinstance rfl Z.n_bool bt_bool (de_idx rfl (de_v 0 rfl (.inl rfl)) de_int (fun _ _ => rfl)))) (de_one (de_eq hr rfl (de_idx rfl (de_v 0 rfl (.inl rfl)) de_int (fun _ _ => rfl)) (de_neg de_int))))))))))))
  · intro _
    exact kb_one F (by intros; rfl) (by intros; rfl)
def s_law_is_event : Sm := (sSeq (sIf (tOr (tNt (tB (eOp1 (dIsi "tuple") (eV 0)) truthS)) (tOr (tCm dNe (eL dLen (aCons (eV 0) aNil)) (eK (.int 2))) (tNt (tB (eOp1 (dIsi "str") (eOp2 dIx (eV 0) (eK (.int 0)))) truthS)))) (sRt (oD (eK (.bool false)))) sNx) (sSeq (sIf (tCm dEq (eOp2 dIx (eV 0) (eK (.int 0))) (eK (.str "step"))) (sRt (oCallN 1 f_law_is_step [] (aaV (eOp2 dIx (eV 0) (eK (.int 1))) aaN))) sNx) (sSeq (sIf (tCm dEq (eOp2 dIx (eV 0) (eK (.int 0))) (eK (.str "careful"))) (sRt (oD (eAn (eOp1 (dIsi "str") (eOp2 dIx (eV 0) (eK (.int 1)))) (eOp2 dIn (eOp2 dIx (eV 0) (eK (.int 1))) (eL dTup (aCons (eK (.str "on")) (aCons (eK (.str "off")) aNil))))))) sNx) (sRt (oD (eAn (eOp2 dEq (eOp2 dIx (eV 0) (eK (.int 0))) (eK (.str "mark"))) (oToD (oCallN 1 f_law_is_name [] (aaV (eOp2 dIx (eV 0) (eK (.int 1))) aaN)))))))))
def f_law_is_event : Md SV := callS 1 s_law_is_event
theorem sc_law_is_event : FnScope ["_law_item"] ["_law_item"] (defScope st_law_is_event) := ⟨rfl, rfl, rfl, by decide +kernel, rfl, by decide +kernel, by decide +kernel⟩
theorem ok_law_is_event (Z : Fx P w K mg base CT tt) : OkD P w K mg base true 4 CT tt (He.ga K "_law_is_event") ["_law_item"] 1 f_law_is_event := by
  obtain ⟨fd, F⟩ := Z.d_law_is_event
  obtain ⟨⟨fd_law_is_step, F_law_is_step, b_law_is_step, kb_law_is_step⟩, k_law_is_step⟩ := ok_law_is_step Z
  obtain ⟨⟨fd_law_is_name, F_law_is_name, b_law_is_name, kb_law_is_name⟩, k_law_is_name⟩ := ok_law_is_name Z
  have scN := sc_law_is_event
  refine ⟨⟨fd, fn_ok (gb := true) F scN (fun cdv A outer s H E hr hp tk => ?_), F.bindsN (fun _ _ _ _ _ _ us hl => match us, hl with | [_], _ => rfl), ?_⟩, F.kp⟩
  · have hr_law_is_step : Rm true 3 _ := hr.mono (by decide)
    have hr_law_is_name : Rm true 2 _ := hr.mono (by decide)
    
    exact (ds_cons (ds_if (PW.pt (dt_or (dt_not (dt_tr (de_isi rfl rfl rfl Z.n_isinstance bt_isinstance rfl Z.n_tuple bt_tuple (de_v 0 rfl (.inl rfl))) rfl)) (dt_or (dt_ne hr rfl (de_len rfl rfl Z.n_len bt_len (da_cons (de_v 0 rfl (.inl rfl)) da_nil)) de_int) (dt_or1 (dt_not (dt_tr (de_isi rfl rfl rfl Z.n_isinstance bt_isinstance rfl Z.n_str bt_str (de_idx rfl (de_v 0 rfl (.inl rfl)) de_int (fun _ _ => rfl))) rfl)))))) (ds_one (ds_ret (do_d de_bl))) ds_nil)
  (ds_cons (ds_if (dt_eq hr rfl (de_idx rfl (de_v 0 rfl (.inl rfl)) de_int (fun _ _ => rfl)) de_str) (ds_one (ds_ret (do_call (fun _ _ _ z => z) rfl F_law_is_step hr_law_is_step tk rfl Z.g__law_is_step k_law_is_step b_law_is_step .nil (fun _ _ => .nil) (daa_val (de_idx rfl (de_v 0 rfl (.inl rfl)) de_int (fun _ _ => rfl)) daa_nil)))) ds_nil)
  (ds_cons (ds_if (dt_eq hr rfl (de_idx rfl (de_v 0 rfl (.inl rfl)) de_int (fun _ _ => rfl)) de_str) (ds_one (ds_ret (do_d (de_and (de_isi rfl rfl rfl Z.n_isinstance bt_isinstance rfl Z.n_str bt_str (de_idx rfl (de_v 0 rfl (.inl rfl)) de_int (fun _ _ => rfl))) (de_one (de_in hr rfl (de_idx rfl (de_v 0 rfl (.inl rfl)) de_int (fun _ _ => rfl)) (de_tup (da_cons de_str (da_cons de_str da_nil))))))))) ds_nil)
  (ds_one (ds_ret (do_d (de_and (de_eq hr rfl (de_idx rfl (de_v 0 rfl (.inl rfl)) de_int (fun _ _ => rfl)) de_str) (de_one (de_o (do_call (fun _ _ _ z => z) rfl F_law_is_name hr_law_is_name tk rfl Z.g__law_is_name k_law_is_name b_law_is_name .nil (fun _ _ => .nil) (daa_val (de_idx rfl (de_v 0 rfl (.inl rfl)) de_int (fun _ _ => rfl)) daa_nil)))))))))))
  · intro _
    exact kb_one F (by intros; rfl) (by intros; rfl)
def s_law_any_event : Sm := (sSeq (sSt (gN 2) (oToD (oCallN 2 f_law_draw [] (aaL 0 (aaV (eK (.int 5)) aaN))))) (sSeq (sIf (tCm dEq (eV 2) (eK (.int 0))) (sRt (oD (eL dTup (aCons (eK (.str "careful")) (aCons (oToD (oCallN 2 f_law_any [] (aaL 0 (aaV (eL dLst (aCons (eK (.str "on")) (aCons (eK (.str "off")) aNil))) aaN)))) aNil))))) sNx) (sSeq (sIf (tCm dEq (eV 2) (eK (.int 1))) (sRt (oD (eL dTup (aCons (eK (.str "mark")) (aCons (oToD (oCallN 2 f_law_any [] (aaL 0 (aaV (eOp2 dAdd (eV 1) (eL dLst (aCons (eK (.str "abcdefgh")) (aCons (eK (.str "z")) aNil)))) aaN)))) aNil))))) sNx) (sSeq (sSt (gN 3) (eL dLst (aCons (eK (.str "go")) (aCons (eK (.str "aside")) (aCons (eK (.str "go")) (aCons (eK (.str "aside")) (aCons (eK (.str "copy")) (aCons (eK (.str "start")) (aCons (eK (.str "mark")) (aCons (eK (.str "close")) (aCons (eK (.str "read")) (aCons (eK (.str "write")) (aCons (eK (.str "wait")) (aCons (eK (.str "end")) aNil)))))))))))))) (sSeq (sPar 4 5 (aCons (oToD (oCallN 2 f_law_any [] (aaL 0 (aaV (eV 3) aaN)))) (aCons (oToD (oCallN 2 f_law_draw [] (aaL 0 (aaV (eK (.int 12)) aaN)))) aNil))) (sSeq (sIf (tCm dEq (oToD (oCallN 2 f_law_draw [] (aaL 0 (aaV (eK (.int 9)) aaN)))) (eK (.int 0))) (sSt (gN 5) (eL dInt (aCons (eOp2 dAdd (eK (.str "1")) (eOp2 dMul (eK (.str "0")) (oToD (oCallN 2 f_law_draw [] (aaL 0 (aaV (eK (.int 60)) aaN)))))) aNil))) sNx) (sRt (oD (eL dTup (aCons (eK (.str "step")) (aCons (eL dTup (aCons (eV 5) (aCons (eV 4) (aCons (eIf (tCm dIn (eV 4) (eL dTup (aCons (eK (.str "go")) (aCons (eK (.str "aside")) aNil)))) (oToD (oCallN 2 f_law_any [] (aaL 0 (aaV (eL dLst (aCons (eK (.int 0)) (aCons (eK (.int 1)) (aCons (eK (.int 7)) (aCons (eK (.int 10)) (aCons (eOp2 dPow (eK (.int 10)) (eK (.int 59))) aNil)))))) aaN)))) (eOp1 dNeg (eK (.int 1)))) aNil)))) aNil)))))))))))
def f_law_any_event : Md SV := callS 6 s_law_any_event
theorem sc_law_any_event : FnScope ["_law_feed_here", "_law_names_here", "_law_kind", "_law_words", "_law_term", "_law_k"] ["_law_feed_here", "_law_names_here"] (defScope st_law_any_event) := ⟨rfl, rfl, rfl, by decide +kernel, rfl, by decide +kernel, by decide +kernel⟩
theorem ok_law_any_event (Z : Fx P w K mg base CT tt) : OkD P w K mg base true 4 CT tt (He.ga K "_law_any_event") ["_law_feed_here", "_law_names_here"] 2 f_law_any_event := by
  obtain ⟨fd, F⟩ := Z.d_law_any_event
  obtain ⟨⟨fd_law_draw, F_law_draw, b_law_draw, kb_law_draw⟩, k_law_draw⟩ := ok_law_draw Z
  obtain ⟨⟨fd_law_any, F_law_any, b_law_any, kb_law_any⟩, k_law_any⟩ := ok_law_any Z
  have scN := sc_law_any_event
  refine ⟨⟨fd, fn_ok (gb := true) F scN (fun cdv A outer s H E hr hp tk => ?_), F.bindsN (fun _ _ _ _ _ _ us hl => match us, hl with | [_, _], _ => rfl), ?_⟩, F.kp⟩
  · have hr_law_draw : Rm true 2 _ := hr.mono (by decide)
    have hr_law_any : Rm true 3 _ := hr.mono (by decide)
    
    exact (ds_cons (ds_set 2 sc_law_any_event.nd rfl (.inl rfl) (de_o (do_call (fun _ _ _ z => z) rfl F_law_draw hr_law_draw tk rfl Z.g__law_draw k_law_draw b_law_draw .nil (fun _ _ => .nil) (daa_lend 0 rfl (.inl rfl) (daa_val de_int daa_nil)))))
  (ds_cons (ds_if (dt_eq hr rfl (de_v 2 rfl (.inl rfl)) de_int) (ds_one (ds_ret (do_d (de_tup (da_cons de_str (da_cons (de_o (do_call (fun _ _ _ z => z) rfl F_law_any hr_law_any tk rfl Z.g__law_any k_law_any b_law_any .nil (fun _ _ => .nil) (daa_lend 0 rfl (.inl rfl) (daa_val (de_lst (da_cons de_str (da_cons de_str da_nil))) daa_nil)))) da_nil)))))) ds_nil)
  (ds_cons (ds_if (dt_eq hr rfl (de_v 2 rfl (.inl rfl)) de_int) (ds_one (ds_ret (do_d (de_tup (da_cons de_str (da_cons (de_o (do_call (fun _ _ _ z => z) rfl F_law_any hr_law_any tk rfl Z.g__law_any k_law_any b_law_any .nil (fun _ _ => .nil) (daa_lend 0 rfl (.inl rfl) (daa_val (de_add rfl (de_v 1 rfl (.inl rfl)) (de_lst (da_cons de_str (da_cons de_str da_nil)))) daa_nil)))) da_nil)))))) ds_nil)
  (ds_cons (ds_set 3 sc_law_any_event.nd rfl (.inl rfl) (de_lst (da_cons de_str (da_cons de_str (da_cons de_str (da_cons de_str (da_cons de_str (da_cons de_str (da_cons de_str (da_cons de_str (da_cons de_str (da_cons de_str (da_cons de_str (da_cons de_str da_nil))))))))))))))
  (ds_cons (ds_par rfl sc_law_any_event.nd rfl rfl (by decide) rfl rfl (da_cons (de_o (do_call (fun _ _ _ z => z) rfl F_law_any hr_law_any tk rfl Z.g__law_any k_law_any b_law_any .nil (fun _ _ => .nil) (daa_lend 0 rfl (.inl rfl) (daa_val (de_v 3 rfl (.inl rfl)) daa_nil)))) (da_cons (de_o (do_call (fun _ _ _ z => z) rfl F_law_draw hr_law_draw tk rfl Z.g__law_draw k_law_draw b_law_draw .nil (fun _ _ => .nil) (daa_lend 0 rfl (.inl rfl) (daa_val de_int daa_nil)))) da_nil)) rfl)
  (ds_cons (ds_if (dt_eq hr rfl (de_o (do_call (fun _ _ _ z => z) rfl F_law_draw hr_law_draw tk rfl Z.g__law_draw k_law_draw b_law_draw .nil (fun _ _ => .nil) (daa_lend 0 rfl (.inl rfl) (daa_val de_int daa_nil)))) de_int) (ds_one (ds_set 5 sc_law_any_event.nd rfl (.inl rfl) (de_int1 rfl Z.n_int bt_int (da_cons (de_add rfl de_str (de_mul de_str (de_o (do_call (fun _ _ _ z => z) rfl F_law_draw hr_law_draw tk rfl Z.g__law_draw k_law_draw b_law_draw .nil (fun _ _ => .nil) (daa_lend 0 rfl (.inl rfl) (daa_val de_int daa_nil)))))) da_nil)))) ds_nil)
  (ds_one (ds_ret (do_d (de_tup (da_cons de_str (da_cons (de_tup (da_cons (de_v 5 rfl (.inl rfl)) (da_cons (de_v 4 rfl (.inl rfl)) (da_cons (de_if (dt_in hr rfl (de_v 4 rfl (.inl rfl)) (de_tup (da_cons de_str (da_cons de_str da_nil)))) (de_o (do_call (fun _ _ _ z => z) rfl F_law_any hr_law_any tk rfl Z.g__law_any k_law_any b_law_any .nil (fun _ _ => .nil) (daa_lend 0 rfl (.inl rfl) (daa_val (de_lst (da_cons de_int (da_cons de_int (da_cons de_int (da_cons de_int (da_cons (de_pow de_int de_int) da_nil)))))) daa_nil)))) (de_neg de_int)) da_nil)))) da_nil))))))))))))
  · exact fun z => absurd z (by decide)
def s_law_stands : Sm := (sSeq (sIf (tCm dEq (eV 0) (eK (.str "number"))) (sSeq (sIf (tOr (tNt (tCh dLe dLe (eK (.int 1)) (eL dLen (aCons (eV 1) aNil)) (eK (.int 60)))) (tCm dNe (eLc (iOf itS (eV 1)) ([(("_law_sign" : Str), 4)].map (·.2)) (gN 4) (tCm dNotIn (eV 4) (eK (.str "0123456789"))) (eV 4)) (eL dLst aNil))) (sRt (oD (eK (.bool false)))) sNx) (sRt (oD (eOr (eOp2 dEq (eV 1) (eK (.str "0"))) (eOp2 dNe (eOp2 dIx (eV 1) (eK (.int 0))) (eK (.str "0"))))))) sNx) (sSeq (sIf (tCm dEq (eV 0) (eK (.str "name"))) (sRt (oD (eAn (eCh dLe dLe (eK (.int 1)) (eL dLen (aCons (eV 1) aNil)) (eK (.int 8))) (eOp2 dEq (eLc (iOf itS (eV 1)) ([(("_law_sign" : Str), 4)].map (·.2)) (gN 4) (tCm dNotIn (eV 4) (eK (.str "abcdefghijklmnopqrstuvwxyz"))) (eV 4)) (eL dLst aNil))))) sNx) (sSeq (sIf (tCm dEq (eV 0) (eK (.str "targets"))) (sSeq (sSt (gN 2) (eMs dSplit (eV 1) (aCons (eK (.str ",")) aNil))) (sSeq sNo (sRt (oD (eOp2 dEq (eLc (iOfL itR2 (aCons (eK (.int 1)) (aCons (eL dLen (aCons (eV 2) aNil)) aNil))) ([(("_law_k" : Str), 6)].map (·.2)) (gN 6) (tCm dLe (eL dInt (aCons (eOp2 dIx (eV 2) (eV 6)) aNil)) (eL dInt (aCons (eOp2 dIx (eV 2) (eOp2 dSub (eV 6) (eK (.int 1)))) aNil))) (eV 6)) (eL dLst aNil)))))) sNx) (sSeq (sStO 3 (oDsp (kCons "hold" (eL dLst (aCons (eK (.str "open")) (aCons (eK (.str "marked")) aNil))) (kCons "birth" (eL dLst (aCons (eK (.str "copy")) (aCons (eK (.str "start")) aNil))) (kCons "end" (eL dLst (aCons (eK (.str "r")) (aCons (eK (.str "w")) aNil))) (kCons "careful" (eL dLst (aCons (eK (.str "on")) (aCons (eK (.str "off")) aNil))) kNil)))))) (sSeq (sDput 3 (eL dLst (aCons (eK (.str "go")) (aCons (eK (.str "aside")) (aCons (eK (.str "copy")) (aCons (eK (.str "start")) (aCons (eK (.str "mark")) (aCons (eK (.str "close")) (aCons (eK (.str "read")) (aCons (eK (.str "write")) (aCons (eK (.str "wait")) (aCons (eK (.str "end")) aNil))))))))))) (eK (.str "step"))) (sRt (oD (eOp2 dIn (eV 1) (eDget 3 (eV 0))))))))))
def f_law_stands : Md SV := callS 7 s_law_stands
theorem sc_law_stands : FnScope ["_law_wish", "_law_term", "_law_parts", "_law_some", "_law_sign", "_law_part", "_law_k"] ["_law_wish", "_law_term"] (defScope st_law_stands) := ⟨rfl, rfl, rfl, by decide +kernel, rfl, by decide +kernel, by decide +kernel⟩
theorem ok_law_stands (Z : Fx P w K mg base CT tt) : OkD P w K mg base true 2 CT tt (He.ga K "_law_stands") ["_law_wish", "_law_term"] 2 f_law_stands := by
  obtain ⟨fd, F⟩ := Z.d_law_stands
  have scN := sc_law_stands
  refine ⟨⟨fd, fn_ok (gb := true) F scN (fun cdv A outer s H E hr hp tk => ?_), F.bindsN (fun _ _ _ _ _ _ us hl => match us, hl with | [_, _], _ => rfl), ?_⟩, F.kp⟩
  · 
    exact (ds_cons (ds_if (dt_eq hr rfl (de_v 0 rfl (.inl rfl)) de_str) (ds_cons (ds_if (PW.pt (dt_or (dt_not (dt_ch op_le op_le o_le o_le de_int (de_len rfl rfl Z.n_len bt_len (da_cons (de_v 1 rfl (.inl rfl)) da_nil)) de_int)) (dt_or1 (dt_ne hr rfl (de_lc (own := [(("_law_sign" : Str), 4)]) (js := [4]) (by decide) rfl sc_law_stands.nd (di_str (de_v 1 rfl (.inl rfl))) (blk_ok2 ["_law_wish", "_law_term", "_law_parts", "_law_some", "_law_sign", "_law_part", "_law_k"] (defScope st_law_stands) rfl rfl (by decide +kernel)) (fun s H C cl fp => (dg_name 4 sc_law_stands.nd rfl (.inl rfl))) (fun s H C cl fp => (dts_one (dt_nin hr rfl (de_v 4 rfl (.inl rfl)) de_str))) (fun s H C cl fp => (de_v 4 rfl (.inl rfl)))) (de_lst da_nil))))) (ds_one (ds_ret (do_d de_bl))) ds_nil)
  (ds_one (ds_ret (do_d (de_or (de_eq hr rfl (de_v 1 rfl (.inl rfl)) de_str) (de_one (de_ne hr rfl (de_idx rfl (de_v 1 rfl (.inl rfl)) de_int (fun _ _ => rfl)) de_str))))))) ds_nil)
  (ds_cons (ds_if (dt_eq hr rfl (de_v 0 rfl (.inl rfl)) de_str) (ds_one (ds_ret (do_d (de_and (de_ch op_le op_le o_le o_le de_int (de_len rfl rfl Z.n_len bt_len (da_cons (de_v 1 rfl (.inl rfl)) da_nil)) de_int) (de_one (de_eq hr rfl (de_lc (own := [(("_law_sign" : Str), 4)]) (js := [4]) (by decide) rfl sc_law_stands.nd (di_str (de_v 1 rfl (.inl rfl))) (blk_ok2 ["_law_wish", "_law_term", "_law_parts", "_law_some", "_law_sign", "_law_part", "_law_k"] (defScope st_law_stands) rfl rfl (by decide +kernel)) (fun s H C cl fp => (dg_name 4 sc_law_stands.nd rfl (.inl rfl))) (fun s H C cl fp => (dts_one (dt_nin hr rfl (de_v 4 rfl (.inl rfl)) de_str))) (fun s H C cl fp => (de_v 4 rfl (.inl rfl)))) (de_lst da_nil))))))) ds_nil)
  (ds_cons (ds_if (dt_eq hr rfl (de_v 0 rfl (.inl rfl)) de_str) (ds_cons (ds_set 2 sc_law_stands.nd rfl (.inr rfl) (de_split (de_v 1 rfl (.inl rfl)) (da_cons de_str da_nil)))
  (ds_cons ds_no
  (ds_one (ds_ret (do_d (de_eq hr rfl (de_lc (own := [(("_law_k" : Str), 6)]) (js := [6]) (by decide) rfl sc_law_stands.nd (di_rng2 rfl Z.n_range (da_cons de_int (da_cons (de_len rfl rfl Z.n_len bt_len (da_cons (de_v 2 rfl (.inr (.inl rfl))) da_nil)) da_nil))) (blk_ok2 ["_law_wish", "_law_term", "_law_parts", "_law_some", "_law_sign", "_law_part", "_law_k"] (defScope st_law_stands) rfl rfl (by decide +kernel)) (fun s H C cl fp => (dg_name 6 sc_law_stands.nd rfl (.inl rfl))) (fun s H C cl fp => (dts_one (dt_le (de_int1 rfl Z.n_int bt_int (da_cons (de_idx rfl (de_v 2 rfl (.inr (.inl rfl))) (de_v 6 rfl (.inl rfl)) (fun _ _ => rfl)) da_nil)) (de_int1 rfl Z.n_int bt_int (da_cons (de_idx rfl (de_v 2 rfl (.inr (.inl rfl))) (de_sub (de_v 6 rfl (.inl rfl)) de_int) (fun _ _ => rfl)) da_nil))))) (fun s H C cl fp => (de_v 6 rfl (.inl rfl)))) (de_lst da_nil))))))) ds_nil)
  (ds_cons (ds_setO 3 sc_law_stands.nd rfl (.inl rfl) (Nat.le_of_ble_eq_true rfl) (do_dsp (dps_cons (de_lst (da_cons de_str (da_cons de_str da_nil))) (dps_cons (de_lst (da_cons de_str (da_cons de_str da_nil))) (dps_cons (de_lst (da_cons de_str (da_cons de_str da_nil))) (dps_cons (de_lst (da_cons de_str (da_cons de_str da_nil))) dps_nil))))))
  (ds_cons (ds_dput 3 hr rfl (.inl rfl) de_str (de_lst (da_cons de_str (da_cons de_str (da_cons de_str (da_cons de_str (da_cons de_str (da_cons de_str (da_cons de_str (da_cons de_str (da_cons de_str (da_cons de_str da_nil))))))))))))
  (ds_one (ds_ret (do_d (de_in hr rfl (de_v 1 rfl (.inl rfl)) (de_dget 3 hr rfl (.inl rfl) (de_v 0 rfl (.inl rfl)) (fun _ _ => rfl)))))))))))
  · exact fun z => absurd z (by decide)
def s_law_field : Sm := (sSeq (sFor (iOfL itR1 (aCons (eL dLen (aCons (eV 1) aNil)) aNil)) (gN 2) (sSeq (sIf (tCm dGe (eOp2 dAdd (eV 2) (eK (.int 1))) (eL dLen (aCons (eV 0) aNil))) (sRt (oD (eL dLen (aCons (eV 0) aNil)))) sNx) (sIf (tNt (tB (oToD (oCallN 2 f_law_stands [] (aaV (eOp2 dIx (eV 1) (eV 2)) (aaV (eOp2 dIx (eV 0) (eOp2 dAdd (eV 2) (eK (.int 1)))) aaN)))) truthS)) (sRt (oD (eOp2 dAdd (eV 2) (eK (.int 1))))) sNx))) (sRt (oD (eIf (tCm dGt (eL dLen (aCons (eV 0) aNil)) (eOp2 dAdd (eL dLen (aCons (eV 1) aNil)) (eK (.int 1)))) (eOp2 dAdd (eL dLen (aCons (eV 1) aNil)) (eK (.int 1))) (eOp1 dNeg (eK (.int 1)))))))
def f_law_field : Md SV := callS 3 s_law_field
theorem sc_law_field : FnScope ["_law_words", "_law_wants", "_law_k"] ["_law_words", "_law_wants"] (defScope st_law_field) := ⟨rfl, rfl, rfl, by decide +kernel, rfl, by decide +kernel, by decide +kernel⟩
theorem ok_law_field (Z : Fx P w K mg base CT tt) : OkD P w K mg base true 3 CT tt (He.ga K "_law_field") ["_law_words", "_law_wants"] 2 f_law_field := by
  obtain ⟨fd, F⟩ := Z.d_law_field
  obtain ⟨⟨fd_law_stands, F_law_stands, b_law_stands, kb_law_stands⟩, k_law_stands⟩ := ok_law_stands Z
  have scN := sc_law_field
  refine ⟨⟨fd, fn_ok (gb := true) F scN (fun cdv A outer s H E hr hp tk => ?_), F.bindsN (fun _ _ _ _ _ _ us hl => match us, hl with | [_, _], _ => rfl), ?_⟩, F.kp⟩
  · have hr_law_stands : Rm true 2 _ := hr.mono (by decide)
    
    exact (ds_cons (ds_for hp rfl (di_rng1 rfl Z.n_range (da_cons (de_len rfl rfl Z.n_len bt_len (da_cons (de_v 1 rfl (.inl rfl)) da_nil)) da_nil)) (dg_name 2 sc_law_field.nd rfl (.inl rfl)) (ds_cons (ds_if (dt_ge (de_add rfl (de_v 2 rfl (.inl rfl)) de_int) (de_len rfl rfl Z.n_len bt_len (da_cons (de_v 0 rfl (.inl rfl)) da_nil))) (ds_one (ds_ret (do_d (de_len rfl rfl Z.n_len bt_len (da_cons (de_v 0 rfl (.inl rfl)) da_nil))))) ds_nil)
  (ds_one (ds_if (dt_not (dt_tr (de_o (do_call (fun _ _ _ z => z) rfl F_law_stands hr_law_stands tk rfl Z.g__law_stands k_law_stands b_law_stands .nil (fun _ _ => .nil) (daa_val (de_idx rfl (de_v 1 rfl (.inl rfl)) (de_v 2 rfl (.inl rfl)) (fun _ _ => rfl)) (daa_val (de_idx rfl (de_v 0 rfl (.inl rfl)) (de_add rfl (de_v 2 rfl (.inl rfl)) de_int) (fun _ _ => rfl)) daa_nil)))) rfl)) (ds_one (ds_ret (do_d (de_add rfl (de_v 2 rfl (.inl rfl)) de_int)))) ds_nil))))
  (ds_one (ds_ret (do_d (de_if (dt_gt (de_len rfl rfl Z.n_len bt_len (da_cons (de_v 0 rfl (.inl rfl)) da_nil)) (de_add rfl (de_len rfl rfl Z.n_len bt_len (da_cons (de_v 1 rfl (.inl rfl)) da_nil)) de_int)) (de_add rfl (de_len rfl rfl Z.n_len bt_len (da_cons (de_v 1 rfl (.inl rfl)) da_nil)) de_int) (de_neg de_int))))))
  · exact fun z => absurd z (by decide)
def s_law_read_event : Sm := (sSeq (sSt (gN 1) (eMs dSplit (eV 0) (aCons (eK (.str " ")) aNil))) (sSeq (sIf (tCm dNotIn (eOp2 dIx (eV 1) (eK (.int 0))) (eL dTup (aCons (eK (.str "step")) (aCons (eK (.str "careful")) (aCons (eK (.str "mark")) aNil))))) (sRt (oD (eK (.int 0)))) sNx) (sSeq (sSt (gN 2) (eDspIx (kCons "step" (eL dLst (aCons (eK (.str "number")) (aCons (eK (.str "step")) aNil))) (kCons "careful" (eL dLst (aCons (eK (.str "careful")) aNil)) (kCons "mark" (eL dLst (aCons (eK (.str "name")) aNil)) kNil))) (eOp2 dIx (eV 1) (eK (.int 0))))) (sSeq (sIf (tAn (tCm dEq (eOp2 dIx (eV 1) (eK (.int 0))) (eK (.str "step"))) (tAn (tCm dGt (eL dLen (aCons (eV 1) aNil)) (eK (.int 2))) (tCm dIn (eOp2 dIx (eV 1) (eK (.int 2))) (eL dTup (aCons (eK (.str "go")) (aCons (eK (.str "aside")) aNil)))))) (sSt (gN 2) (eOp2 dAdd (eV 2) (eL dLst (aCons (eK (.str "number")) aNil)))) sNx) (sSeq (sSt (gN 3) (oToD (oCallN 2 f_law_field [] (aaV (eV 1) (aaV (eV 2) aaN))))) (sSeq (sIf (tCm dGe (eV 3) (eK (.int 0))) (sRt (oD (eV 3))) sNx) (sSeq (sIf (tCm dNe (eOp2 dIx (eV 1) (eK (.int 0))) (eK (.str "step"))) (sRt (oD (eL dTup (aCons (eOp2 dIx (eV 1) (eK (.int 0))) (aCons (eOp2 dIx (eV 1) (eK (.int 1))) aNil))))) sNx) (sRt (oD (eL dTup (aCons (eK (.str "step")) (aCons (eL dTup (aCons (eL dInt (aCons (eOp2 dIx (eV 1) (eK (.int 1))) aNil)) (aCons (eOp2 dIx (eV 1) (eK (.int 2))) (aCons (eIf (tCm dGt (eL dLen (aCons (eV 1) aNil)) (eK (.int 3))) (eL dInt (aCons (eOp2 dIx (eV 1) (eK (.int 3))) aNil)) (eOp1 dNeg (eK (.int 1)))) aNil)))) aNil))))))))))))
def f_law_read_event : Md SV := callS 4 s_law_read_event
theorem sc_law_read_event : FnScope ["_law_piece", "_law_words", "_law_wants", "_law_field_here"] ["_law_piece"] (defScope st_law_read_event) := ⟨rfl, rfl, rfl, by decide +kernel, rfl, by decide +kernel, by decide +kernel⟩
theorem ok_law_read_event (Z : Fx P w K mg base CT tt) : OkD P w K mg base true 4 CT tt (He.ga K "_law_read_event") ["_law_piece"] 1 f_law_read_event := by
  obtain ⟨fd, F⟩ := Z.d_law_read_event
  obtain ⟨⟨fd_law_field, F_law_field, b_law_field, kb_law_field⟩, k_law_field⟩ := ok_law_field Z
  have scN := sc_law_read_event
  refine ⟨⟨fd, fn_ok (gb := true) F scN (fun cdv A outer s H E hr hp tk => ?_), F.bindsN (fun _ _ _ _ _ _ us hl => match us, hl with | [_], _ => rfl), ?_⟩, F.kp⟩
  · have hr_law_field : Rm true 3 _ := hr.mono (by decide)
    
    exact (ds_cons (ds_set 1 sc_law_read_event.nd rfl (.inl rfl) (de_split (de_v 0 rfl (.inl rfl)) (da_cons de_str da_nil)))
  (ds_cons (ds_if (dt_nin hr rfl (de_idx rfl (de_v 1 rfl (.inl rfl)) de_int (fun _ _ => rfl)) (de_tup (da_cons de_str (da_cons de_str (da_cons de_str da_nil))))) (ds_one (ds_ret (do_d de_int))) ds_nil)
  (ds_cons (ds_set 2 sc_law_read_event.nd rfl (.inl rfl) (de_dspIx hr (dps_cons (de_lst (da_cons de_str (da_cons de_str da_nil))) (dps_cons (de_lst (da_cons de_str da_nil)) (dps_cons (de_lst (da_cons de_str da_nil)) dps_nil))) (de_idx rfl (de_v 1 rfl (.inl rfl)) de_int (fun _ _ => rfl)) (fun _ _ => rfl)))
  (ds_cons (ds_if (PW.pt (dt_and (dt_eq hr rfl (de_idx rfl (de_v 1 rfl (.inl rfl)) de_int (fun _ _ => rfl)) de_str) (dt_and (dt_gt (de_len rfl rfl Z.n_len bt_len (da_cons (de_v 1 rfl (.inl rfl)) da_nil)) de_int) (dt_and1 (dt_in hr rfl (de_idx rfl (de_v 1 rfl (.inl rfl)) de_int (fun _ _ => rfl)) (de_tup (da_cons de_str (da_cons de_str da_nil)))))))) (ds_one (ds_set 2 sc_law_read_event.nd rfl (.inl rfl) (de_add rfl (de_v 2 rfl (.inl rfl)) (de_lst (da_cons de_str da_nil))))) ds_nil)
  (ds_cons (ds_set 3 sc_law_read_event.nd rfl (.inl rfl) (de_o (do_call (fun _ _ _ z => z) rfl F_law_field hr_law_field tk rfl Z.g__law_field k_law_field b_law_field .nil (fun _ _ => .nil) (daa_val (de_v 1 rfl (.inl rfl)) (daa_val (de_v 2 rfl (.inl rfl)) daa_nil)))))
  (ds_cons (ds_if (dt_ge (de_v 3 rfl (.inl rfl)) de_int) (ds_one (ds_ret (do_d (de_v 3 rfl (.inl rfl))))) ds_nil)
  (ds_cons (ds_if (dt_ne hr rfl (de_idx rfl (de_v 1 rfl (.inl rfl)) de_int (fun _ _ => rfl)) de_str) (ds_one (ds_ret (do_d (de_tup (da_cons (de_idx rfl (de_v 1 rfl (.inl rfl)) de_int (fun _ _ => rfl)) (da_cons (de_idx rfl (de_v 1 rfl (.inl rfl)) de_int (fun _ _ => rfl)) da_nil)))))) ds_nil)
  (ds_one (ds_ret (do_d (de_tup (da_cons de_str (da_cons (de_tup (da_cons (de_int1 rfl Z.n_int bt_int (da_cons (de_idx rfl (de_v 1 rfl (.inl rfl)) de_int (fun _ _ => rfl)) da_nil)) (da_cons (de_idx rfl (de_v 1 rfl (.inl rfl)) de_int (fun _ _ => rfl)) (da_cons (de_if (dt_gt (de_len rfl rfl Z.n_len bt_len (da_cons (de_v 1 rfl (.inl rfl)) da_nil)) de_int) (de_int1 rfl Z.n_int bt_int (da_cons (de_idx rfl (de_v 1 rfl (.inl rfl)) de_int (fun _ _ => rfl)) da_nil)) (de_neg de_int)) da_nil)))) da_nil)))))))))))))
  · intro _
    exact kb_one F (by intros; rfl) (by intros; rfl)
def s_law_event_line : Sm := (sSeq (sIf (tCm dNe (eOp2 dIx (eV 0) (eK (.int 0))) (eK (.str "step"))) (sRt (oD (eOp2 dAdd (eOp2 dAdd (eOp2 dIx (eV 0) (eK (.int 0))) (eK (.str " "))) (eOp2 dIx (eV 0) (eK (.int 1)))))) sNx) (sSeq (sSt (gN 1) (eOp2 dAdd (eOp2 dAdd (eOp2 dAdd (eK (.str "step ")) (eL dStr (aCons (eOp2 dIx (eOp2 dIx (eV 0) (eK (.int 1))) (eK (.int 0))) aNil))) (eK (.str " "))) (eOp2 dIx (eOp2 dIx (eV 0) (eK (.int 1))) (eK (.int 1))))) (sRt (oD (eOp2 dAdd (eV 1) (eIf (tCm dIn (eOp2 dIx (eOp2 dIx (eV 0) (eK (.int 1))) (eK (.int 1))) (eL dTup (aCons (eK (.str "go")) (aCons (eK (.str "aside")) aNil)))) (eOp2 dAdd (eK (.str " ")) (eL dStr (aCons (eOp2 dIx (eOp2 dIx (eV 0) (eK (.int 1))) (eK (.int 2))) aNil))) (eK (.str ""))))))))
def f_law_event_line : Md SV := callS 2 s_law_event_line
theorem sc_law_event_line : FnScope ["_law_deed", "_law_line"] ["_law_deed"] (defScope st_law_event_line) := ⟨rfl, rfl, rfl, by decide +kernel, rfl, by decide +kernel, by decide +kernel⟩
theorem ok_law_event_line (Z : Fx P w K mg base CT tt) : OkD P w K mg base true 2 CT tt (He.ga K "_law_event_line") ["_law_deed"] 1 f_law_event_line := by
  obtain ⟨fd, F⟩ := Z.d_law_event_line
  have scN := sc_law_event_line
  refine ⟨⟨fd, fn_ok (gb := true) F scN (fun cdv A outer s H E hr hp tk => ?_), F.bindsN (fun _ _ _ _ _ _ us hl => match us, hl with | [_], _ => rfl), ?_⟩, F.kp⟩
  · 
    exact (ds_cons (ds_if (dt_ne hr rfl (de_idx rfl (de_v 0 rfl (.inl rfl)) de_int (fun _ _ => rfl)) de_str) (ds_one (ds_ret (do_d (de_add rfl (de_add rfl (de_idx rfl (de_v 0 rfl (.inl rfl)) de_int (fun _ _ => rfl)) de_str) (de_idx rfl (de_v 0 rfl (.inl rfl)) de_int (fun _ _ => rfl)))))) ds_nil)
  (ds_cons (ds_set 1 sc_law_event_line.nd rfl (.inl rfl) (de_add rfl (de_add rfl (de_add rfl de_str (de_str1 rfl Z.n_str bt_str (da_cons (de_idx rfl (de_idx rfl (de_v 0 rfl (.inl rfl)) de_int (fun _ _ => rfl)) de_int (fun _ _ => rfl)) da_nil))) de_str) (de_idx rfl (de_idx rfl (de_v 0 rfl (.inl rfl)) de_int (fun _ _ => rfl)) de_int (fun _ _ => rfl))))
  (ds_one (ds_ret (do_d (de_add rfl (de_v 1 rfl (.inl rfl)) (de_if (dt_in hr rfl (de_idx rfl (de_idx rfl (de_v 0 rfl (.inl rfl)) de_int (fun _ _ => rfl)) de_int (fun _ _ => rfl)) (de_tup (da_cons de_str (da_cons de_str da_nil)))) (de_add rfl de_str (de_str1 rfl Z.n_str bt_str (da_cons (de_idx rfl (de_idx rfl (de_v 0 rfl (.inl rfl)) de_int (fun _ _ => rfl)) de_int (fun _ _ => rfl)) da_nil))) de_str)))))))
  · intro _
    exact kb_one F (by intros; rfl) (by intros; rfl)
def s_law_bent_text : Sm := (sSeq (sPar3 2 3 4 (aCons (eMs dSplit (eV 1) (aCons (eK (.str " ")) aNil)) (aCons (oToD (oCallN 2 f_law_draw [] (aaL 0 (aaV (eK (.int 9)) aaN)))) (aCons (oToD (oCallN 2 f_law_draw [] (aaL 0 (aaV (eOp2 dAdd (eL dLen (aCons (eV 1) aNil)) (eK (.int 1))) aaN)))) aNil)))) (sSeq (sSt (gN 5) (oToD (oCallN 2 f_law_draw [] (aaL 0 (aaV (eL dLen (aCons (eV 2) aNil)) aaN))))) (sSeq (sSt (gN 6) (eL dLst (aCons (eK (.str "")) (aCons (eK (.str "0")) (aCons (eK (.str "00")) (aCons (eK (.str "01")) (aCons (eK (.str "a")) (aCons (eK (.str "abcdefgh")) (aCons (eK (.str "abcdefghi")) (aCons (eK (.str "go")) (aCons (eK (.str "copy")) (aCons (eK (.str "stay")) (aCons (eK (.str "end")) (aCons (eK (.str "on")) (aCons (eK (.str "off")) (aCons (eK (.str "mark")) (aCons (eK (.str "r")) aNil))))))))))))))))) (sSeq (sSt (gN 6) (eOp2 dAdd (eV 6) (eL dLst (aCons (eK (.str "step")) (aCons (eK (.str "careful")) (aCons (eK (.str "-1")) (aCons (eOp2 dAdd (eK (.str "1")) (eOp2 dMul (eK (.str "0")) (eK (.int 59)))) (aCons (eOp2 dAdd (eK (.str "1")) (eOp2 dMul (eK (.str "0")) (eK (.int 60)))) (aCons (eK (.str "A")) (aCons (eK (.str "open")) (aCons (eK (.str "1,2")) (aCons (eK (.str "2,1")) (aCons (eK (.str "w")) aNil))))))))))))) (sSeq (sSt (gN 7) (oToD (oCallN 2 f_law_any [] (aaL 0 (aaV (eV 6) aaN))))) (sSeq (sIf (tCm dLt (eV 3) (eK (.int 2))) (sRt (oD (eMs dJoin (eK (.str " ")) (aCons (eOp2 dAdd (eOp2 dAdd (eSl (eV 2) pcN (pcS (eV 5))) (eL dLst (aCons (eV 7) aNil))) (eSl (eV 2) (pcS (eOp2 dAdd (eV 5) (eV 3))) pcN)) aNil)))) sNx) (sSeq (sIf (tCm dEq (eV 3) (eK (.int 2))) (sRt (oD (eMs dJoin (eK (.str " ")) (aCons (eOp2 dAdd (eSl (eV 2) pcN (pcS (eV 5))) (eSl (eV 2) (pcS (eOp2 dAdd (eV 5) (eK (.int 1)))) pcN)) aNil)))) sNx) (sSeq (sIf (tCm dEq (eV 3) (eK (.int 3))) (sRt (oD (eMs dJoin (eK (.str " ")) (aCons (eOp2 dAdd (eSl (eV 2) pcN (pcS (eOp2 dAdd (eV 5) (eK (.int 1))))) (eSl (eV 2) (pcS (eV 5)) pcN)) aNil)))) sNx) (sSeq (sIf (tCm dEq (eV 3) (eK (.int 4))) (sRt (oD (eMs dJoin (eK (.str " ")) (aCons (eSl (eV 2) pcN (pcS (eV 5))) aNil)))) sNx) (sSeq (sSt (gN 8) (oToD (oCallN 2 f_law_any [] (aaL 0 (aaV (eL dLst (aCons (eK (.str "0")) (aCons (eK (.str "1")) (aCons (eK (.str "a")) (aCons (eK (.str "z")) (aCons (eK (.str " ")) (aCons (eK (.str "-")) (aCons (eK (.str ",")) (aCons (eK (.str "A")) (aCons (eK (.str "~")) (aCons (eK (.str "!")) aNil))))))))))) aaN))))) (sRt (oD (eOp2 dAdd (eOp2 dAdd (eSl (eV 1) pcN (pcS (eV 4))) (eIf (tCm dLt (eV 3) (eK (.int 8))) (eV 8) (eK (.str "")))) (eSl (eV 1) (pcS (eOp2 dAdd (eV 4) (eL dInt (aCons (eOp2 dGt (eV 3) (eK (.int 6))) aNil)))) pcN))))))))))))))
def f_law_bent_text : Md SV := callS 9 s_law_bent_text
theorem sc_law_bent_text : FnScope ["_law_feed_here", "_law_piece", "_law_words", "_law_way", "_law_k", "_law_at", "_law_some", "_law_odd", "_law_sign"] ["_law_feed_here", "_law_piece"] (defScope st_law_bent_text) := ⟨rfl, rfl, rfl, by decide +kernel, rfl, by decide +kernel, by decide +kernel⟩
theorem ok_law_bent_text (Z : Fx P w K mg base CT tt) : OkD P w K mg base true 4 CT tt (He.ga K "_law_bent_text") ["_law_feed_here", "_law_piece"] 2 f_law_bent_text := by
  obtain ⟨fd, F⟩ := Z.d_law_bent_text
  obtain ⟨⟨fd_law_draw, F_law_draw, b_law_draw, kb_law_draw⟩, k_law_draw⟩ := ok_law_draw Z
  obtain ⟨⟨fd_law_any, F_law_any, b_law_any, kb_law_any⟩, k_law_any⟩ := ok_law_any Z
  have scN := sc_law_bent_text
  refine ⟨⟨fd, fn_ok (gb := true) F scN (fun cdv A outer s H E hr hp tk => ?_), F.bindsN (fun _ _ _ _ _ _ us hl => match us, hl with | [_, _], _ => rfl), ?_⟩, F.kp⟩
  · have hr_law_draw : Rm true 2 _ := hr.mono (by decide)
    have hr_law_any : Rm true 3 _ := hr.mono (by decide)
    
    exact (ds_cons (ds_par3 rfl sc_law_bent_text.nd rfl rfl rfl (by decide) (by decide) (by decide) rfl rfl rfl (da_cons (de_split (de_v 1 rfl (.inl rfl)) (da_cons de_str da_nil)) (da_cons (de_o (do_call (fun _ _ _ z => z) rfl F_law_draw hr_law_draw tk rfl Z.g__law_draw k_law_draw b_law_draw .nil (fun _ _ => .nil) (daa_lend 0 rfl (.inl rfl) (daa_val de_int daa_nil)))) (da_cons (de_o (do_call (fun _ _ _ z => z) rfl F_law_draw hr_law_draw tk rfl Z.g__law_draw k_law_draw b_law_draw .nil (fun _ _ => .nil) (daa_lend 0 rfl (.inl rfl) (daa_val (de_add rfl (de_len rfl rfl Z.n_len bt_len (da_cons (de_v 1 rfl (.inl rfl)) da_nil)) de_int) daa_nil)))) da_nil))) rfl)
  (ds_cons (ds_set 5 sc_law_bent_text.nd rfl (.inl rfl) (de_o (do_call (fun _ _ _ z => z) rfl F_law_draw hr_law_draw tk rfl Z.g__law_draw k_law_draw b_law_draw .nil (fun _ _ => .nil) (daa_lend 0 rfl (.inl rfl) (daa_val (de_len rfl rfl Z.n_len bt_len (da_cons (de_v 2 rfl (.inl rfl)) da_nil)) daa_nil)))))
  (ds_cons (ds_set 6 sc_law_bent_text.nd rfl (.inl rfl) (de_lst (da_cons de_str (da_cons de_str (da_cons de_str (da_cons de_str (da_cons de_str (da_cons de_str (da_cons de_str (da_cons de_str (da_cons de_str (da_cons de_str (da_cons de_str (da_cons de_str (da_cons de_str (da_cons de_str (da_cons de_str da_nil)))))))))))))))))
  (ds_cons (ds_set 6 sc_law_bent_text.nd rfl (.inl rfl) (de_add rfl (de_v 6 rfl (.inl rfl)) (de_lst (da_cons de_str (da_cons de_str (da_cons de_str (da_cons (de_add rfl de_str (de_mul de_str de_int)) (da_cons (de_add rfl de_str (de_mul de_str de_int)) (da_cons de_str (da_cons de_str (da_cons de_str (da_cons de_str (da_cons de_str da_nil)))))))))))))
  (ds_cons (ds_set 7 sc_law_bent_text.nd rfl (.inl rfl) (de_o (do_call (fun _ _ _ z => z) rfl F_law_any hr_law_any tk rfl Z.g__law_any k_law_any b_law_any .nil (fun _ _ => .nil) (daa_lend 0 rfl (.inl rfl) (daa_val (de_v 6 rfl (.inl rfl)) daa_nil)))))
  (ds_cons (ds_if (dt_lt (de_v 3 rfl (.inl rfl)) de_int) (ds_one (ds_ret (do_d (de_join rfl de_str (da_cons (de_add rfl (de_add rfl (de_sl rfl (de_v 2 rfl (.inl rfl)) dp_none (dp_some (de_v 5 rfl (.inl rfl)))) (de_lst (da_cons (de_v 7 rfl (.inl rfl)) da_nil))) (de_sl rfl (de_v 2 rfl (.inl rfl)) (dp_some (de_add rfl (de_v 5 rfl (.inl rfl)) (de_v 3 rfl (.inl rfl)))) dp_none)) da_nil))))) ds_nil)
  (ds_cons (ds_if (dt_eq hr rfl (de_v 3 rfl (.inl rfl)) de_int) (ds_one (ds_ret (do_d (de_join rfl de_str (da_cons (de_add rfl (de_sl rfl (de_v 2 rfl (.inl rfl)) dp_none (dp_some (de_v 5 rfl (.inl rfl)))) (de_sl rfl (de_v 2 rfl (.inl rfl)) (dp_some (de_add rfl (de_v 5 rfl (.inl rfl)) de_int)) dp_none)) da_nil))))) ds_nil)
  (ds_cons (ds_if (dt_eq hr rfl (de_v 3 rfl (.inl rfl)) de_int) (ds_one (ds_ret (do_d (de_join rfl de_str (da_cons (de_add rfl (de_sl rfl (de_v 2 rfl (.inl rfl)) dp_none (dp_some (de_add rfl (de_v 5 rfl (.inl rfl)) de_int))) (de_sl rfl (de_v 2 rfl (.inl rfl)) (dp_some (de_v 5 rfl (.inl rfl))) dp_none)) da_nil))))) ds_nil)
  (ds_cons (ds_if (dt_eq hr rfl (de_v 3 rfl (.inl rfl)) de_int) (ds_one (ds_ret (do_d (de_join rfl de_str (da_cons (de_sl rfl (de_v 2 rfl (.inl rfl)) dp_none (dp_some (de_v 5 rfl (.inl rfl)))) da_nil))))) ds_nil)
  (ds_cons (ds_set 8 sc_law_bent_text.nd rfl (.inl rfl) (de_o (do_call (fun _ _ _ z => z) rfl F_law_any hr_law_any tk rfl Z.g__law_any k_law_any b_law_any .nil (fun _ _ => .nil) (daa_lend 0 rfl (.inl rfl) (daa_val (de_lst (da_cons de_str (da_cons de_str (da_cons de_str (da_cons de_str (da_cons de_str (da_cons de_str (da_cons de_str (da_cons de_str (da_cons de_str (da_cons de_str da_nil))))))))))) daa_nil)))))
  (ds_one (ds_ret (do_d (de_add rfl (de_add rfl (de_sl rfl (de_v 1 rfl (.inl rfl)) dp_none (dp_some (de_v 4 rfl (.inl rfl)))) (de_if (dt_lt (de_v 3 rfl (.inl rfl)) de_int) (de_v 8 rfl (.inl rfl)) de_str)) (de_sl rfl (de_v 1 rfl (.inl rfl)) (dp_some (de_add rfl (de_v 4 rfl (.inl rfl)) (de_int1 rfl Z.n_int bt_int (da_cons (de_gt (de_v 3 rfl (.inl rfl)) de_int) da_nil)))) dp_none)))))))))))))))
  · exact fun z => absurd z (by decide)
def s_law_lines : Sm := (sSeq (sSt (gN 0) (eL dLst (aCons (eK (.str "")) (aCons (eK (.str " ")) (aCons (eK (.str "step")) (aCons (eK (.str "step ")) (aCons (eK (.str "step 0")) (aCons (eK (.str "step 0 ")) (aCons (eK (.str "step 0 end")) (aCons (eK (.str "step 0 end ")) (aCons (eK (.str "step 0 end -1")) (aCons (eK (.str "step 0 go")) aNil)))))))))))) (sSeq (sSt (gN 0) (eOp2 dAdd (eV 0) (eL dLst (aCons (eK (.str "step 0 go 0")) (aCons (eK (.str "step 00 go 0")) (aCons (eK (.str "step 0 go 00")) (aCons (eK (.str "step 0 go -1")) (aCons (eK (.str "step 0 aside 3")) (aCons (eK (.str "step 0 aside")) aNil))))))))) (sSeq (sSt (gN 0) (eOp2 dAdd (eV 0) (eL dLst (aCons (eK (.str "undo")) (aCons (eK (.str "step 0 stay")) (aCons (eK (.str "step -1 end")) (aCons (eK (.str "step a end")) (aCons (eK (.str "step 0 End")) (aCons (eK (.str "step  0 end")) (aCons (eK (.str " step 0 end")) aNil)))))))))) (sSeq (sSt (gN 0) (eOp2 dAdd (eV 0) (eL dLst (aCons (eK (.str "step 0 end 0")) (aCons (eOp2 dAdd (eOp2 dAdd (eK (.str "step ")) (eOp2 dMul (eK (.str "9")) (eK (.int 60)))) (eK (.str " wait"))) (aCons (eOp2 dAdd (eOp2 dAdd (eK (.str "step ")) (eOp2 dMul (eK (.str "9")) (eK (.int 61)))) (eK (.str " wait"))) aNil)))))) (sSeq (sSt (gN 0) (eOp2 dAdd (eV 0) (eL dLst (aCons (eOp2 dAdd (eK (.str "step 0 go ")) (eOp2 dMul (eK (.str "1")) (eK (.int 61)))) (aCons (eK (.str "Step 0 end")) (aCons (eK (.str "careful")) (aCons (eK (.str "careful on")) (aCons (eK (.str "careful off")) (aCons (eK (.str "careful On")) aNil))))))))) (sSeq (sSt (gN 0) (eOp2 dAdd (eV 0) (eL dLst (aCons (eK (.str "careful on off")) (aCons (eK (.str "careful ")) (aCons (eK (.str "careful  on")) (aCons (eK (.str "mark")) (aCons (eK (.str "mark a")) (aCons (eK (.str "mark abcdefgh")) (aCons (eK (.str "mark abcdefghi")) aNil)))))))))) (sSeq (sSt (gN 0) (eOp2 dAdd (eV 0) (eL dLst (aCons (eK (.str "mark A")) (aCons (eK (.str "mark a b")) (aCons (eK (.str "mark ")) (aCons (eK (.str "mark on")) (aCons (eK (.str "mark a1")) (aCons (eK (.str "mark a\n")) (aCons (eK (.str "\nmark a")) (aCons (eK (.str "mark\na")) aNil))))))))))) (sSeq (sSt (gN 0) (eOp2 dAdd (eV 0) (eL dLst (aCons (eK (.str "step 0 end\n")) (aCons (eK (.str "step 0\nend")) (aCons (eK (.str "careful on\n")) (aCons (eK (.str "0 end")) (aCons (eK (.str "house on 1")) (aCons (eK (.str "mark step")) (aCons (eK (.str "mark 0")) aNil)))))))))) (sRt (oD (eOp2 dAdd (eV 0) (eL dLst (aCons (eK (.str "step 0 copy 1")) (aCons (eK (.str "step 10 copy")) (aCons (eK (.str "step 1 close")) (aCons (eK (.str "step 1 write 0")) (aCons (eK (.str "step step end")) aNil)))))))))))))))))
def f_law_lines : Md SV := callS 1 s_law_lines
theorem sc_law_lines : FnScope ["_law_some"] [] (defScope st_law_lines) := ⟨rfl, rfl, rfl, by decide +kernel, rfl, by decide +kernel, by decide +kernel⟩
theorem ok_law_lines (Z : Fx P w K mg base CT tt) : OkD P w K mg base true 2 CT tt (He.ga K "_law_lines") [] 0 f_law_lines := by
  obtain ⟨fd, F⟩ := Z.d_law_lines
  have scN := sc_law_lines
  refine ⟨⟨fd, fn_ok (gb := true) F scN (fun cdv A outer s H E hr hp tk => ?_), F.bindsN (fun _ _ _ _ _ _ us hl => match us, hl with | [], _ => rfl), ?_⟩, F.kp⟩
  · 
    exact (ds_cons (ds_set 0 sc_law_lines.nd rfl (.inl rfl) (de_lst (da_cons de_str (da_cons de_str (da_cons de_str (da_cons de_str (da_cons de_str (da_cons de_str (da_cons de_str (da_cons de_str (da_cons de_str (da_cons de_str da_nil))))))))))))
  (ds_cons (ds_set 0 sc_law_lines.nd rfl (.inl rfl) (de_add rfl (de_v 0 rfl (.inl rfl)) (de_lst (da_cons de_str (da_cons de_str (da_cons de_str (da_cons de_str (da_cons de_str (da_cons de_str da_nil)))))))))
  (ds_cons (ds_set 0 sc_law_lines.nd rfl (.inl rfl) (de_add rfl (de_v 0 rfl (.inl rfl)) (de_lst (da_cons de_str (da_cons de_str (da_cons de_str (da_cons de_str (da_cons de_str (da_cons de_str (da_cons de_str da_nil))))))))))
  (ds_cons (ds_set 0 sc_law_lines.nd rfl (.inl rfl) (de_add rfl (de_v 0 rfl (.inl rfl)) (de_lst (da_cons de_str (da_cons (de_add rfl (de_add rfl de_str (de_mul de_str de_int)) de_str) (da_cons (de_add rfl (de_add rfl de_str (de_mul de_str de_int)) de_str) da_nil))))))
  (ds_cons (ds_set 0 sc_law_lines.nd rfl (.inl rfl) (de_add rfl (de_v 0 rfl (.inl rfl)) (de_lst (da_cons (de_add rfl de_str (de_mul de_str de_int)) (da_cons de_str (da_cons de_str (da_cons de_str (da_cons de_str (da_cons de_str da_nil)))))))))
  (ds_cons (ds_set 0 sc_law_lines.nd rfl (.inl rfl) (de_add rfl (de_v 0 rfl (.inl rfl)) (de_lst (da_cons de_str (da_cons de_str (da_cons de_str (da_cons de_str (da_cons de_str (da_cons de_str (da_cons de_str da_nil))))))))))
  (ds_cons (ds_set 0 sc_law_lines.nd rfl (.inl rfl) (de_add rfl (de_v 0 rfl (.inl rfl)) (de_lst (da_cons de_str (da_cons de_str (da_cons de_str (da_cons de_str (da_cons de_str (da_cons de_str (da_cons de_str (da_cons de_str da_nil)))))))))))
  (ds_cons (ds_set 0 sc_law_lines.nd rfl (.inl rfl) (de_add rfl (de_v 0 rfl (.inl rfl)) (de_lst (da_cons de_str (da_cons de_str (da_cons de_str (da_cons de_str (da_cons de_str (da_cons de_str (da_cons de_str da_nil))))))))))
  (ds_one (ds_ret (do_d (de_add rfl (de_v 0 rfl (.inl rfl)) (de_lst (da_cons de_str (da_cons de_str (da_cons de_str (da_cons de_str (da_cons de_str da_nil))))))))))))))))))
  · exact fun z => absurd z (by decide)
def s_law_is_read : Sm := (sSeq (sSt (gN 1) (oToD (oCallN 1 f_law_read_event [] (aaV (eV 0) aaN)))) (sSeq (sSt (gN 1) (eIf (tB (eOp1 (dIsi "tuple") (eV 1)) truthS) (eL dTup (aCons (eK (.str "told")) (aCons (eV 1) aNil))) (eL dTup (aCons (eK (.str "text")) (aCons (eK (.int 0)) (aCons (eV 1) aNil)))))) (sSeq (sStO 2 (oLst (aCons (eHeard "told" subPipe hearPipe (oToD (oCallN 1 f_read_event [] (aaV (eV 0) aaN)))) aNil))) (sSeq (sEx (oLm 2 wAppend (aCons (eHeard "told" subPipe hearPipe (oToD (oCallK 1 f_read_event [] aNil (aCons (eV 0) aNil)))) aNil))) (sSeq (sIf (tCm dNe (ePk1 2 dRepr) (eL dRepr (aCons (eL dLst (aCons (eV 1) (aCons (eV 1) aNil))) aNil))) (sRt (oD (eK (.bool false)))) sNx) (sRt (oD (eOr (eOp2 dEq (eOp2 dIx (eV 1) (eK (.int 0))) (eK (.str "text"))) (eOp2 dEq (eL dRepr (aCons (oToD (oCallN 1 f_event_line [] (aaV (eOp2 dIx (eV 1) (eK (.int 1))) aaN))) aNil)) (eL dRepr (aCons (eV 0) aNil)))))))))))
def f_law_is_read : Md SV := callS 3 s_law_is_read
theorem sc_law_is_read : FnScope ["_law_piece", "_law_due", "_law_told"] ["_law_piece"] (defScope st_law_is_read) := ⟨rfl, rfl, rfl, by decide +kernel, rfl, by decide +kernel, by decide +kernel⟩
theorem ok_law_is_read (Z : Fx P w K mg base CT tt) : OkD P w K mg base true 11 CT tt (He.ga K "_law_is_read") ["_law_piece"] 1 f_law_is_read := by
  obtain ⟨fd, F⟩ := Z.d_law_is_read
  obtain ⟨⟨fd_law_read_event, F_law_read_event, b_law_read_event, kb_law_read_event⟩, k_law_read_event⟩ := ok_law_read_event Z
  obtain ⟨⟨fd_read_event, F_read_event, b_read_event, kb_read_event⟩, k_read_event⟩ := ok_read_event Z
  obtain ⟨⟨fd_event_line, F_event_line, b_event_line, kb_event_line⟩, k_event_line⟩ := ok_event_line Z
  obtain ⟨fd_hd, F_hd⟩ := Z.d_law_heard
  obtain ⟨cc, Pt, hcc, TB, hmT, huT⟩ := Z.tab_law_is_read
  have scN := sc_law_is_read
  refine ⟨⟨fd, fn_okC (gb := true) F scN (fun cdv hcv A outer s H E hr hp tk => ?_), F.bindsN (fun _ _ _ _ _ _ us hl => match us, hl with | [_], _ => rfl), ?_⟩, F.kp⟩
  · have hr_law_read_event : Rm true 4 _ := hr.mono (by decide)
    have hr_read_event : Rm false 8 _ := hr.low.mono (by decide)
    have hr_event_line : Rm false 7 _ := hr.low.mono (by decide)
    
    exact (ds_cons (ds_set 1 sc_law_is_read.nd rfl (.inl rfl) (de_o (do_call (fun _ _ _ z => z) rfl F_law_read_event hr_law_read_event tk rfl Z.g__law_read_event k_law_read_event b_law_read_event .nil (fun _ _ => .nil) (daa_val (de_v 0 rfl (.inr (.inl rfl))) daa_nil))))
  (ds_cons (ds_set 1 sc_law_is_read.nd rfl (.inl rfl) (de_if (dt_tr (de_isi rfl rfl rfl Z.n_isinstance bt_isinstance rfl Z.n_tuple bt_tuple (de_v 1 rfl (.inl rfl))) rfl) (de_tup (da_cons de_str (da_cons (de_v 1 rfl (.inl rfl)) da_nil))) (de_tup (da_cons de_str (da_cons de_int (da_cons (de_v 1 rfl (.inl rfl)) da_nil))))))
  (ds_cons (ds_setO 2 sc_law_is_read.nd rfl (.inl rfl) (Nat.le_of_ble_eq_true rfl) (do_lst (da_cons (de_heardF (k := 8) rfl rfl Z.g__law_heard F_hd (F_hd.bindsN (fun _ _ _ _ _ _ us hl => match us, hl with | [_], _ => rfl)) sc_law_heard rfl (.inl rfl) (fun _ => gv_heard Z) TB (hcc cdv hcv) hmT huT hr (LamX.lamS_by rfl) rfl (fun _ _ _ _ _ => rfl) (fun A outer s H E f c1 hr => by have lr_read_event : Rm false 8 _ := hr.mono (by decide);  exact (de_o (do_call (fun _ _ _ z => z) rfl F_read_event lr_read_event (takes_of rfl rfl rfl rfl) rfl Z.g_read_event k_read_event b_read_event .nil (fun _ _ => .nil) (daa_val (de_v 0 rfl (.inr (.inr rfl))) daa_nil))))) da_nil)))
  (ds_cons (ds_expr (do_app 2 rfl rfl (.inl rfl) (de_heardF (k := 8) rfl rfl Z.g__law_heard F_hd (F_hd.bindsN (fun _ _ _ _ _ _ us hl => match us, hl with | [_], _ => rfl)) sc_law_heard rfl (.inl rfl) (fun _ => gv_heard Z) TB (hcc cdv hcv) hmT huT hr (LamX.lamS_by rfl) rfl (fun _ _ _ _ _ => rfl) (fun A outer s H E f c1 hr => by have lr_read_event : Rm false 8 _ := hr.mono (by decide);  exact (de_o (do_callK0 (fun _ _ _ z => z) rfl F_read_event lr_read_event (takes_of rfl rfl rfl rfl) rfl Z.g_read_event k_read_event (kb_read_event rfl) (fun _ _ => .nil) (dk_cons (de_v 0 rfl (.inr (.inr rfl))) dk_nil)))))))
  (ds_cons (ds_if (dt_ne hr rfl (de_biO 2 (call_reprD hr) o_repr rfl Z.n_repr bt_repr rfl (.inl rfl)) (de_repr hr rfl rfl Z.n_repr bt_repr (da_cons (de_lst (da_cons (de_v 1 rfl (.inl rfl)) (da_cons (de_v 1 rfl (.inl rfl)) da_nil))) da_nil))) (ds_one (ds_ret (do_d de_bl))) ds_nil)
  (ds_one (ds_ret (do_d (de_or (de_eq hr rfl (de_idx rfl (de_v 1 rfl (.inl rfl)) de_int (fun _ _ => rfl)) de_str) (de_one (de_eq hr rfl (de_repr hr rfl rfl Z.n_repr bt_repr (da_cons (de_o (do_call (fun _ _ _ z => z) rfl F_event_line hr_event_line tk rfl Z.g_event_line k_event_line b_event_line .nil (fun _ _ => .nil) (daa_val (de_idx rfl (de_v 1 rfl (.inl rfl)) de_int (fun _ _ => rfl)) daa_nil))) da_nil)) (de_repr hr rfl rfl Z.n_repr bt_repr (da_cons (de_v 0 rfl (.inr (.inl rfl))) da_nil)))))))))))))
  · intro _
    exact kb_one F (by intros; rfl) (by intros; rfl)
def s_law : Sm := (sSeq (sStO 1 (oCallN 1 f_law_feed [] (aaV (eV 0) aaN))) (sSeq (sFor (iOf itL (oToD (oCallN 0 f_law_lines [] aaN))) (gN 2) (sIf (tNt (tB (oToD (oCallN 1 f_law_is_read [] (aaV (eV 2) aaN))) truthS)) (sRt (oD (eK (.bool false)))) sNx)) (sSeq (sFor (iOfL itR1 (aCons (eK (.int 12)) aNil)) (gN 3) (sSeq (sSt (gN 4) (oToD (oCallN 2 f_law_any_event [] (aaL 1 (aaV (oToD (oCallN 1 f_law_names [] (aaL 1 aaN))) aaN))))) (sSeq (sSt (gN 5) (oToD (oCallN 1 f_law_event_line [] (aaV (eV 4) aaN)))) (sSeq (sIf (tCm dNe (eL dRepr (aCons (eL dLst (aCons (oToD (oCallN 1 f_event_line [] (aaV (eV 4) aaN))) (aCons (oToD (oCallK 1 f_event_line [] aNil (aCons (eV 4) aNil))) aNil))) aNil)) (eL dRepr (aCons (eL dLst (aCons (eV 5) (aCons (eV 5) aNil))) aNil))) (sRt (oD (eK (.bool false)))) sNx) (sSeq (sSt (gN 6) (oToD (oCallN 2 f_law_bent_text [] (aaL 1 (aaV (eV 5) aaN))))) (sSeq (sFor (iOf itT (eL dTup (aCons (eV 5) (aCons (eV 6) (aCons (oToD (oCallN 2 f_law_bent_text [] (aaL 1 (aaV (eV 6) aaN)))) (aCons (oToD (oCallN 2 f_law_bent_text [] (aaL 1 (aaV (eV 5) aaN)))) aNil)))))) (gN 2) (sIf (tNt (tB (oToD (oCallN 1 f_law_is_read [] (aaV (eV 2) aaN))) truthS)) (sRt (oD (eK (.bool false)))) sNx)) (sSeq (sSt (gN 7) (oToD (oCallN 1 f_law_strange [] (aaL 1 aaN)))) (sSeq (sIf (tAn (tNt (tB (oToD (oCallN 1 f_law_is_event [] (aaV (eV 7) aaN))) truthS)) (tCm dNe (eHeard "told" subPipe hearPipe (oToD (oCallN 1 f_event_line [] (aaV (eV 7) aaN)))) (eL dTup (aCons (eK (.str "use")) (aCons (eK (.str "event")) (aCons (eOp1 dNeg (eK (.int 1))) aNil)))))) (sRt (oD (eK (.bool false)))) sNx) (sIf (tAn (tNt (tB (eOp1 (dIsi "str") (eV 7)) truthS)) (tCm dNe (eHeard "told" subPipe hearPipe (oToD (oCallN 1 f_read_event [] (aaV (eV 7) aaN)))) (eL dTup (aCons (eK (.str "use")) (aCons (eK (.str "text")) (aCons (eOp1 dNeg (eK (.int 1))) aNil)))))) (sRt (oD (eK (.bool false)))) sNx))))))))) (sRt (oD (eK (.bool true)))))))
def f_law : Md SV := callS 8 s_law
theorem sc_law : FnScope ["_law_script", "_law_feed_here", "_law_piece", "_law_lap", "_law_deed", "_law_line", "_law_once", "_law_odd"] ["_law_script"] (defScope st_law) := ⟨rfl, rfl, rfl, by decide +kernel, rfl, by decide +kernel, by decide +kernel⟩
theorem ok_law (Z : Fx P w K mg base CT tt) {fd : FuncData} (F : FunD K "law" "law" (defArgs st_law) (defBody st_law) (defScope st_law) [] [] (He.ga K "law") fd) : FnV P w K mg base (L2.CX P w) true 14 (He.ga K "law") fd ["_law_script"] (spV K CT tt 1 f_law) := by
  obtain ⟨⟨fd_law_feed, F_law_feed, b_law_feed, kb_law_feed⟩, k_law_feed⟩ := ok_law_feed Z
  obtain ⟨⟨fd_law_lines, F_law_lines, b_law_lines, kb_law_lines⟩, k_law_lines⟩ := ok_law_lines Z
  obtain ⟨⟨fd_law_is_read, F_law_is_read, b_law_is_read, kb_law_is_read⟩, k_law_is_read⟩ := ok_law_is_read Z
  obtain ⟨⟨fd_law_any_event, F_law_any_event, b_law_any_event, kb_law_any_event⟩, k_law_any_event⟩ := ok_law_any_event Z
  obtain ⟨⟨fd_law_names, F_law_names, b_law_names, kb_law_names⟩, k_law_names⟩ := ok_law_names Z
  obtain ⟨⟨fd_law_event_line, F_law_event_line, b_law_event_line, kb_law_event_line⟩, k_law_event_line⟩ := ok_law_event_line Z
  obtain ⟨⟨fd_event_line, F_event_line, b_event_line, kb_event_line⟩, k_event_line⟩ := ok_event_line Z
  obtain ⟨⟨fd_law_bent_text, F_law_bent_text, b_law_bent_text, kb_law_bent_text⟩, k_law_bent_text⟩ := ok_law_bent_text Z
  obtain ⟨⟨fd_law_strange, F_law_strange, b_law_strange, kb_law_strange⟩, k_law_strange⟩ := ok_law_strange Z
  obtain ⟨⟨fd_law_is_event, F_law_is_event, b_law_is_event, kb_law_is_event⟩, k_law_is_event⟩ := ok_law_is_event Z
  obtain ⟨⟨fd_read_event, F_read_event, b_read_event, kb_read_event⟩, k_read_event⟩ := ok_read_event Z
  obtain ⟨fd_hd, F_hd⟩ := Z.d_law_heard
  obtain ⟨cc, Pt, hcc, TB, hmT, huT⟩ := Z.tab_law
  have scN := sc_law
  refine fn_okC (gb := true) F scN (fun cdv hcv A outer s H E hr hp tk => ?_)
  · have hr_law_feed : Rm true 2 _ := hr.mono (by decide)
    have hr_law_lines : Rm true 2 _ := hr.mono (by decide)
    have hr_law_is_read : Rm true 11 _ := hr.mono (by decide)
    have hr_law_any_event : Rm true 4 _ := hr.mono (by decide)
    have hr_law_names : Rm true 4 _ := hr.mono (by decide)
    have hr_law_event_line : Rm true 2 _ := hr.mono (by decide)
    have hr_event_line : Rm false 7 _ := hr.low.mono (by decide)
    have hr_law_bent_text : Rm true 4 _ := hr.mono (by decide)
    have hr_law_strange : Rm true 4 _ := hr.mono (by decide)
    have hr_law_is_event : Rm true 4 _ := hr.mono (by decide)
    have hr_read_event : Rm false 8 _ := hr.low.mono (by decide)
    
    exact (ds_cons (ds_setO 1 sc_law.nd rfl (.inl rfl) (Nat.le_of_ble_eq_true rfl) (do_call (fun _ _ _ z => z) rfl F_law_feed hr_law_feed tk rfl Z.g__law_feed k_law_feed b_law_feed .nil (fun _ _ => .nil) (daa_val (de_v 0 rfl (.inl rfl)) daa_nil)))
  (ds_cons (ds_for hp rfl (di_list rfl (de_o (do_call0 (fun _ _ _ z => z) rfl F_law_lines hr_law_lines tk rfl Z.g__law_lines k_law_lines b_law_lines .nil (fun _ _ => .nil)))) (dg_name 2 sc_law.nd rfl (.inl rfl)) (ds_one (ds_if (dt_not (dt_tr (de_o (do_call (fun _ _ _ z => z) rfl F_law_is_read hr_law_is_read tk rfl Z.g__law_is_read k_law_is_read b_law_is_read .nil (fun _ _ => .nil) (daa_val (de_v 2 rfl (.inl rfl)) daa_nil))) rfl)) (ds_one (ds_ret (do_d de_bl))) ds_nil)))
  (ds_cons (ds_for hp rfl (di_rng1 rfl Z.n_range (da_cons de_int da_nil)) (dg_name 3 sc_law.nd rfl (.inl rfl)) (ds_cons (ds_set 4 sc_law.nd rfl (.inl rfl) (de_o (do_call (fun _ _ _ z => z) rfl F_law_any_event hr_law_any_event tk rfl Z.g__law_any_event k_law_any_event b_law_any_event .nil (fun _ _ => .nil) (daa_lend 1 rfl (.inl rfl) (daa_val (de_o (do_call (fun _ _ _ z => z) rfl F_law_names hr_law_names tk rfl Z.g__law_names k_law_names b_law_names .nil (fun _ _ => .nil) (daa_lend 1 rfl (.inl rfl) daa_nil))) daa_nil)))))
  (ds_cons (ds_set 5 sc_law.nd rfl (.inl rfl) (de_o (do_call (fun _ _ _ z => z) rfl F_law_event_line hr_law_event_line tk rfl Z.g__law_event_line k_law_event_line b_law_event_line .nil (fun _ _ => .nil) (daa_val (de_v 4 rfl (.inl rfl)) daa_nil))))
  (ds_cons (ds_if (dt_ne hr rfl (de_repr hr rfl rfl Z.n_repr bt_repr (da_cons (de_lst (da_cons (de_o (do_call (fun _ _ _ z => z) rfl F_event_line hr_event_line tk rfl Z.g_event_line k_event_line b_event_line .nil (fun _ _ => .nil) (daa_val (de_v 4 rfl (.inl rfl)) daa_nil))) (da_cons (de_o (do_callK0 (fun _ _ _ z => z) rfl F_event_line hr_event_line tk rfl Z.g_event_line k_event_line (kb_event_line rfl) (fun _ _ => .nil) (dk_cons (de_v 4 rfl (.inl rfl)) dk_nil))) da_nil))) da_nil)) (de_repr hr rfl rfl Z.n_repr bt_repr (da_cons (de_lst (da_cons (de_v 5 rfl (.inl rfl)) (da_cons (de_v 5 rfl (.inl rfl)) da_nil))) da_nil))) (ds_one (ds_ret (do_d de_bl))) ds_nil)
  (ds_cons (ds_set 6 sc_law.nd rfl (.inl rfl) (de_o (do_call (fun _ _ _ z => z) rfl F_law_bent_text hr_law_bent_text tk rfl Z.g__law_bent_text k_law_bent_text b_law_bent_text .nil (fun _ _ => .nil) (daa_lend 1 rfl (.inl rfl) (daa_val (de_v 5 rfl (.inl rfl)) daa_nil)))))
  (ds_cons (ds_for hp rfl (di_tup rfl (de_tup (da_cons (de_v 5 rfl (.inl rfl)) (da_cons (de_v 6 rfl (.inl rfl)) (da_cons (de_o (do_call (fun _ _ _ z => z) rfl F_law_bent_text hr_law_bent_text tk rfl Z.g__law_bent_text k_law_bent_text b_law_bent_text .nil (fun _ _ => .nil) (daa_lend 1 rfl (.inl rfl) (daa_val (de_v 6 rfl (.inl rfl)) daa_nil)))) (da_cons (de_o (do_call (fun _ _ _ z => z) rfl F_law_bent_text hr_law_bent_text tk rfl Z.g__law_bent_text k_law_bent_text b_law_bent_text .nil (fun _ _ => .nil) (daa_lend 1 rfl (.inl rfl) (daa_val (de_v 5 rfl (.inl rfl)) daa_nil)))) da_nil)))))) (dg_name 2 sc_law.nd rfl (.inl rfl)) (ds_one (ds_if (dt_not (dt_tr (de_o (do_call (fun _ _ _ z => z) rfl F_law_is_read hr_law_is_read tk rfl Z.g__law_is_read k_law_is_read b_law_is_read .nil (fun _ _ => .nil) (daa_val (de_v 2 rfl (.inl rfl)) daa_nil))) rfl)) (ds_one (ds_ret (do_d de_bl))) ds_nil)))
  (ds_cons (ds_set 7 sc_law.nd rfl (.inr rfl) (de_o (do_call (fun _ _ _ z => z) rfl F_law_strange hr_law_strange tk rfl Z.g__law_strange k_law_strange b_law_strange .nil (fun _ _ => .nil) (daa_lend 1 rfl (.inl rfl) daa_nil))))
  (ds_cons (ds_if (PW.pt (dt_and (dt_not (dt_tr (de_o (do_call (fun _ _ _ z => z) rfl F_law_is_event hr_law_is_event tk rfl Z.g__law_is_event k_law_is_event b_law_is_event .nil (fun _ _ => .nil) (daa_val (de_v 7 rfl (.inr (.inl rfl))) daa_nil))) rfl)) (dt_and1 (dt_ne hr rfl (de_heardF (k := 11) rfl rfl Z.g__law_heard F_hd (F_hd.bindsN (fun _ _ _ _ _ _ us hl => match us, hl with | [_], _ => rfl)) sc_law_heard rfl (.inl rfl) (fun _ => gv_heard Z) TB (hcc cdv hcv) hmT huT hr (LamX.lamS_by rfl) rfl (fun _ _ _ _ _ => rfl) (fun A outer s H E f c1 hr => by have lr_event_line : Rm false 7 _ := hr.mono (by decide); have lr_read_event : Rm false 8 _ := hr.mono (by decide);  exact (de_o (do_call (fun _ _ _ z => z) rfl F_event_line lr_event_line (takes_of rfl rfl rfl rfl) rfl Z.g_event_line k_event_line b_event_line .nil (fun _ _ => .nil) (daa_val (de_v 7 rfl (.inr (.inr rfl))) daa_nil))))) (de_tup (da_cons de_str (da_cons de_str (da_cons (de_neg de_int) da_nil)))))))) (ds_one (ds_ret (do_d de_bl))) ds_nil)
  (ds_one (ds_if (PW.pt (dt_and (dt_not (dt_tr (de_isi rfl rfl rfl Z.n_isinstance bt_isinstance rfl Z.n_str bt_str (de_v 7 rfl (.inr (.inl rfl)))) rfl)) (dt_and1 (dt_ne hr rfl (de_heardF (k := 11) rfl rfl Z.g__law_heard F_hd (F_hd.bindsN (fun _ _ _ _ _ _ us hl => match us, hl with | [_], _ => rfl)) sc_law_heard rfl (.inl rfl) (fun _ => gv_heard Z) TB (hcc cdv hcv) hmT huT hr (LamX.lamS_by rfl) rfl (fun _ _ _ _ _ => rfl) (fun A outer s H E f c1 hr => by have lr_event_line : Rm false 7 _ := hr.mono (by decide); have lr_read_event : Rm false 8 _ := hr.mono (by decide);  exact (de_o (do_call (fun _ _ _ z => z) rfl F_read_event lr_read_event (takes_of rfl rfl rfl rfl) rfl Z.g_read_event k_read_event b_read_event .nil (fun _ _ => .nil) (daa_val (de_v 7 rfl (.inr (.inr rfl))) daa_nil))))) (de_tup (da_cons de_str (da_cons de_str (da_cons (de_neg de_int) da_nil)))))))) (ds_one (ds_ret (do_d de_bl))) ds_nil))))))))))
  (ds_one (ds_ret (do_d de_bl))))))
end
/-! the head -/
def hd_cs : List Str := ["NotUsable", "Reader", "InvalidText", "Broken", "HouseError", "InvalidEvent", "InvalidRow", "NothingToUndo", "PaperError", "PipeError", "ProgramError", "TextError"]
def hd_tf : List Str := ["_law_is_read", "law"]
abbrev st_NotUsable_init : Stmt := mth 7 0
abbrev st_InvalidText_init : Stmt := mth 11 0
abbrev hd_P : Program := PySem.Challenge.pw_keptends_k72_events_written_and_read
def hd_file : Str := hd_P.main.file
def hd_fn : List He.DefD := [⟨("is_integer", none), "is_integer", "is_integer", defArgs st_is_integer, defBody st_is_integer, defScope st_is_integer, [], []⟩,
  ⟨("is_number", none), "is_number", "is_number", defArgs st_is_number, defBody st_is_number, defScope st_is_number, [], []⟩,
  ⟨("is_among", none), "is_among", "is_among", defArgs st_is_among, defBody st_is_among, defScope st_is_among, [], []⟩,
  ⟨("is_name", none), "is_name", "is_name", defArgs st_is_name, defBody st_is_name, defScope st_is_name, [], []⟩,
  ⟨("is_twofold", none), "is_twofold", "is_twofold", defArgs st_is_twofold, defBody st_is_twofold, defScope st_is_twofold, [], []⟩,
  ⟨("is_step", none), "is_step", "is_step", defArgs st_is_step, defBody st_is_step, defScope st_is_step, [], []⟩,
  ⟨("is_event", none), "is_event", "is_event", defArgs st_is_event, defBody st_is_event, defScope st_is_event, [], []⟩,
  ⟨("want", none), "want", "want", defArgs st_want, defBody st_want, defScope st_want, [], []⟩,
  ⟨("Reader", some "__init__"), "__init__", "Reader.__init__", defArgs st_Reader_init, defBody st_Reader_init, defScope st_Reader_init, [], []⟩,
  ⟨("Reader", some "fail_unless"), "fail_unless", "Reader.fail_unless", defArgs st_Reader_fail_unless, defBody st_Reader_fail_unless, defScope st_Reader_fail_unless, [], []⟩,
  ⟨("Reader", some "take"), "take", "Reader.take", defArgs st_Reader_take, defBody st_Reader_take, defScope st_Reader_take, [], []⟩,
  ⟨("Reader", some "take_among"), "take_among", "Reader.take_among", defArgs st_Reader_take_among, defBody st_Reader_take_among, defScope st_Reader_take_among, [], []⟩,
  ⟨("Reader", some "take_name"), "take_name", "Reader.take_name", defArgs st_Reader_take_name, defBody st_Reader_take_name, defScope st_Reader_take_name, [], []⟩,
  ⟨("number_of", none), "number_of", "number_of", defArgs st_number_of, defBody st_number_of, defScope st_number_of, [], []⟩,
  ⟨("Reader", some "take_number"), "take_number", "Reader.take_number", defArgs st_Reader_take_number, defBody st_Reader_take_number, defScope st_Reader_take_number, [], []⟩,
  ⟨("Reader", some "stop"), "stop", "Reader.stop", defArgs st_Reader_stop, defBody st_Reader_stop, defScope st_Reader_stop, [], []⟩,
  ⟨("words_of_step", none), "words_of_step", "words_of_step", defArgs st_words_of_step, defBody st_words_of_step, defScope st_words_of_step, [], []⟩,
  ⟨("step_text", none), "step_text", "step_text", defArgs st_step_text, defBody st_step_text, defScope st_step_text, [], []⟩,
  ⟨("step_by", none), "step_by", "step_by", defArgs st_step_by, defBody st_step_by, defScope st_step_by, [], []⟩,
  ⟨("event_by", none), "event_by", "event_by", defArgs st_event_by, defBody st_event_by, defScope st_event_by, [], []⟩,
  ⟨("read_event", none), "read_event", "read_event", defArgs st_read_event, defBody st_read_event, defScope st_read_event, [], []⟩,
  ⟨("line_of", none), "line_of", "line_of", defArgs st_line_of, defBody st_line_of, defScope st_line_of, [], []⟩,
  ⟨("event_line", none), "event_line", "event_line", defArgs st_event_line, defBody st_event_line, defScope st_event_line, [], []⟩,
  ⟨("_law_feed", none), "_law_feed", "_law_feed", defArgs st_law_feed, defBody st_law_feed, defScope st_law_feed, [], []⟩,
  ⟨("_law_draw", none), "_law_draw", "_law_draw", defArgs st_law_draw, defBody st_law_draw, defScope st_law_draw, [], []⟩,
  ⟨("_law_any", none), "_law_any", "_law_any", defArgs st_law_any, defBody st_law_any, defScope st_law_any, [], []⟩,
  ⟨("_law_names", none), "_law_names", "_law_names", defArgs st_law_names, defBody st_law_names, defScope st_law_names, [], []⟩,
  ⟨("_law_strange", none), "_law_strange", "_law_strange", defArgs st_law_strange, defBody st_law_strange, defScope st_law_strange, [], []⟩,
  ⟨("_law_is_number", none), "_law_is_number", "_law_is_number", defArgs st_law_is_number, defBody st_law_is_number, defScope st_law_is_number, [], []⟩,
  ⟨("_law_is_name", none), "_law_is_name", "_law_is_name", defArgs st_law_is_name, defBody st_law_is_name, defScope st_law_is_name, [], []⟩,
  ⟨("_law_is_step", none), "_law_is_step", "_law_is_step", defArgs st_law_is_step, defBody st_law_is_step, defScope st_law_is_step, [], []⟩,
  ⟨("_law_is_event", none), "_law_is_event", "_law_is_event", defArgs st_law_is_event, defBody st_law_is_event, defScope st_law_is_event, [], []⟩,
  ⟨("_law_any_event", none), "_law_any_event", "_law_any_event", defArgs st_law_any_event, defBody st_law_any_event, defScope st_law_any_event, [], []⟩,
  ⟨("_law_stands", none), "_law_stands", "_law_stands", defArgs st_law_stands, defBody st_law_stands, defScope st_law_stands, [], []⟩,
  ⟨("_law_field", none), "_law_field", "_law_field", defArgs st_law_field, defBody st_law_field, defScope st_law_field, [], []⟩,
  ⟨("_law_read_event", none), "_law_read_event", "_law_read_event", defArgs st_law_read_event, defBody st_law_read_event, defScope st_law_read_event, [], []⟩,
  ⟨("_law_event_line", none), "_law_event_line", "_law_event_line", defArgs st_law_event_line, defBody st_law_event_line, defScope st_law_event_line, [], []⟩,
  ⟨("_law_bent_text", none), "_law_bent_text", "_law_bent_text", defArgs st_law_bent_text, defBody st_law_bent_text, defScope st_law_bent_text, [], []⟩,
  ⟨("_law_lines", none), "_law_lines", "_law_lines", defArgs st_law_lines, defBody st_law_lines, defScope st_law_lines, [], []⟩,
  ⟨("_law_is_read", none), "_law_is_read", "_law_is_read", defArgs st_law_is_read, defBody st_law_is_read, defScope st_law_is_read, [], []⟩,
  ⟨("law", none), "law", "law", defArgs st_law, defBody st_law, defScope st_law, [], []⟩,
  ⟨("_law_heard", none), "_law_heard", "_law_heard", defArgs st_law_heard, defBody st_law_heard, defScope st_law_heard, [], []⟩]
def hd_fa : List He.Fa := [.glo "is_integer", .free "isinstance", .free "int", .free "bool", .glo "is_number", .glo "is_among", .free "str", .glo "is_name", .free "len", .free "all", .int "MOST_LETTERS" 8, .str "LETTERS" "abcdefghijklmnopqrstuvwxyz", .glo "is_twofold", .free "tuple", .glo "is_step", .glo "WORDS", .glo "is_event", .glo "EVENT_WORDS", .glo "CAREFULS", .glo "want", .glo "NotUsable", .cls "Reader", .noat "Reader" "held_words", .noat "Reader" "held_count", .noat "Reader" "held_line", .glo "InvalidText", .meth "Reader" "fail_unless", .meth "Reader" "take", .glo "number_of", .int "MOST_DIGITS" 60, .str "DIGITS" "0123456789", .glo "words_of_step", .glo "step_text", .glo "step_by", .glo "NUMBERED", .glo "BARE", .meth "Reader" "take_number", .meth "Reader" "stop", .meth "Reader" "take_among", .glo "event_by", .meth "Reader" "take_name", .glo "read_event", .mkr "Reader", .glo "Reader", .glo "line_of", .glo "event_line", .glo "_law_feed", .glo "_law_draw", .glo "_law_any", .glo "_law_names", .free "range", .glo "_law_strange", .glo "_law_is_number", .glo "_law_is_name", .glo "_law_is_step", .glo "_law_is_event", .glo "_law_any_event", .glo "_law_stands", .glo "_law_field", .glo "_law_read_event", .glo "_law_event_line", .glo "_law_bent_text", .glo "_law_lines", .glo "_law_is_read", .free "repr", .glo "law", .glo "PipeError", .glo "NothingToUndo", .glo "InvalidEvent", .glo "InvalidRow", .glo "Broken", .glo "TextError", .glo "HouseError", .glo "ProgramError", .glo "PaperError", .free "ValueError", .glo "_law_heard", .free "super"]
def hd_xs : List ExD := [⟨"NotUsable", "NotUsable.__init__", defArgs st_NotUsable_init, defBody st_NotUsable_init, defScope st_NotUsable_init⟩,
  ⟨"InvalidText", "InvalidText.__init__", defArgs st_InvalidText_init, defBody st_InvalidText_init, defScope st_InvalidText_init⟩]
def hd_ex : List (PySem.W.Frag → Bool) := [fun K => He.tupB K "WORDS" (([("go" : Str), ("copy" : Str), ("start" : Str), ("mark" : Str), ("close" : Str), ("read" : Str), ("write" : Str), ("wait" : Str), ("stay" : Str), ("end" : Str)] : List Str).map He.Dv.str),
  fun K => He.tupB K "EVENT_WORDS" (([("step" : Str), ("careful" : Str), ("mark" : Str)] : List Str).map He.Dv.str),
  fun K => He.tupB K "CAREFULS" (([("on" : Str), ("off" : Str)] : List Str).map He.Dv.str),
  fun K => oexB K (He.ga K "NotUsable"),
  fun K => iniB K "NotUsable",
  fun K => oexB K (He.ga K "InvalidText"),
  fun K => iniB K "InvalidText",
  fun K => He.tupB K "NUMBERED" (([("go" : Str), ("aside" : Str)] : List Str).map He.Dv.str),
  fun K => He.tupB K "BARE" (([("copy" : Str), ("start" : Str), ("mark" : Str), ("close" : Str), ("read" : Str), ("write" : Str), ("wait" : Str), ("end" : Str)] : List Str).map He.Dv.str),
  fun K => exmB K hd_cs isA_PipeError "PipeError",
  fun K => exqB K hd_cs isA_PipeError [("at" : Str), ("word" : Str), ("reason" : Str), ("event" : Str), ("steps" : Str), ("done" : Str), ("field" : Str), ("line" : Str), ("row" : Str)],
  fun K => kitB K hd_cs isA_NothingToUndo (.ref (He.ga K "NothingToUndo")),
  fun K => kitB K hd_cs isA_InvalidEvent (.ref (He.ga K "InvalidEvent")),
  fun K => kitB K hd_cs isA_NotUsable (.ref (He.ga K "NotUsable")),
  fun K => kitB K hd_cs isA_InvalidRow (.ref (He.ga K "InvalidRow")),
  fun K => kitB K hd_cs isA_InvalidText (.ref (He.ga K "InvalidText")),
  fun K => kitB K hd_cs isA_Broken (.ref (He.ga K "Broken")),
  fun K => kitB K hd_cs isA_TextError (.ref (He.ga K "TextError")),
  fun K => kitB K hd_cs isA_HouseError (.ref (He.ga K "HouseError")),
  fun K => kitB K hd_cs isA_ProgramError (.ref (He.ga K "ProgramError")),
  fun K => kitB K hd_cs isA_PaperError (.ref (He.ga K "PaperError")),
  fun K => kitB K hd_cs isA_ValueError (.type "ValueError"),
  fun K => xfnB hd_file K "NotUsable" "NotUsable.__init__",
  fun K => xclB K (He.ga K "NotUsable"),
  fun K => opqB K,
  fun K => noAtB K "NotUsable" ["word", "at"],
  fun K => xfnB hd_file K "InvalidText" "InvalidText.__init__",
  fun K => xclB K (He.ga K "InvalidText"),
  fun K => noAtB K "InvalidText" ["line", "field"]]
section
variable {K : PySem.W.Frag} {h base : Heap} {mg : Str → Option Value} {w : World}
theorem xi_NotUsable (X : K.In h) (G : h.Ns mainGlobals mg) (c : SaysV hd_fa hd_fn hd_tf (exAll hd_ex) hd_xs h K) : ∃ fd, FnOk hd_P w K mg base (L2.CX hd_P w) 1 (He.ma K (He.ga K "NotUsable") "__init__") fd ["self", "word", "at"] (spE (He.ga K "NotUsable") ["word", "at"]) ∧ Binds K fd ["self", "word", "at"] [] := by
  obtain ⟨cc, cda, fd, XF, hd⟩ := xfun_of (P := hd_P) (file := hd_file) rfl (c.ini_at 0) (exAll_at c.more 22 rfl) (exAll_at c.more 23 rfl) (exAll_at c.more 24 rfl) rfl rfl rfl rfl (by decide +kernel)
  refine ⟨fd, exc_two (pl := do return (← (pure (some false) : Sem (Option Bool))).getD true) rfl XF (oexB_ok (exAll_at c.more 3 rfl)) (He.free_ok X G (c.d.fact 77 rfl)) (NdefX.nscope_by (by decide +kernel)) rfl rfl rfl (by decide +kernel) (by decide +kernel) (by decide +kernel) (by decide +kernel) (noAtB_ok (exAll_at c.more 25 rfl) (by decide +kernel)) (noAtB_ok (exAll_at c.more 25 rfl) (by decide +kernel)) (fun L => rfl) (fun L => rfl), xbinds XF hd fun _ _ _ _ _ us hl => match us, hl with | [_, _, _], _ => rfl⟩
theorem xi_InvalidText (X : K.In h) (G : h.Ns mainGlobals mg) (c : SaysV hd_fa hd_fn hd_tf (exAll hd_ex) hd_xs h K) : ∃ fd, FnOk hd_P w K mg base (L2.CX hd_P w) 1 (He.ma K (He.ga K "InvalidText") "__init__") fd ["self", "line", "field"] (spE (He.ga K "InvalidText") ["line", "field"]) ∧ Binds K fd ["self", "line", "field"] [] := by
  obtain ⟨cc, cda, fd, XF, hd⟩ := xfun_of (P := hd_P) (file := hd_file) rfl (c.ini_at 1) (exAll_at c.more 26 rfl) (exAll_at c.more 27 rfl) (exAll_at c.more 24 rfl) rfl rfl rfl rfl (by decide +kernel)
  refine ⟨fd, exc_two (pl := do return (← (pure (some false) : Sem (Option Bool))).getD true) rfl XF (oexB_ok (exAll_at c.more 5 rfl)) (He.free_ok X G (c.d.fact 77 rfl)) (NdefX.nscope_by (by decide +kernel)) rfl rfl rfl (by decide +kernel) (by decide +kernel) (by decide +kernel) (by decide +kernel) (noAtB_ok (exAll_at c.more 28 rfl) (by decide +kernel)) (noAtB_ok (exAll_at c.more 28 rfl) (by decide +kernel)) (fun L => rfl) (fun L => rfl), xbinds XF hd fun _ _ _ _ _ us hl => match us, hl with | [_, _, _], _ => rfl⟩
theorem fx_of (X : K.In h) (G : h.Ns mainGlobals mg) (c : SaysV hd_fa hd_fn hd_tf (exAll hd_ex) hd_xs h K) (hT : ∀ p ∈ hd_tf.map (fun x => He.cT K (x, none)), LamX.TabB base mg p.1 p.2) : Fx hd_P w K mg base (ctOf K hd_cs) (ttOf K hd_tf) where
  d_is_integer := c.d.def_ 0 rfl
  g_is_integer := He.glo_ok X G (c.d.fact 0 rfl)
  n_isinstance := He.free_ok X G (c.d.fact 1 rfl)
  n_int := He.free_ok X G (c.d.fact 2 rfl)
  n_bool := He.free_ok X G (c.d.fact 3 rfl)
  d_is_number := c.d.def_ 1 rfl
  g_is_number := He.glo_ok X G (c.d.fact 4 rfl)
  d_is_among := c.d.def_ 2 rfl
  g_is_among := He.glo_ok X G (c.d.fact 5 rfl)
  n_str := He.free_ok X G (c.d.fact 6 rfl)
  d_is_name := c.d.def_ 3 rfl
  g_is_name := He.glo_ok X G (c.d.fact 7 rfl)
  n_len := He.free_ok X G (c.d.fact 8 rfl)
  n_all := He.free_ok X G (c.d.fact 9 rfl)
  w_MOST_LETTERS := gloI X G (c.d.fact 10 rfl)
  w_LETTERS := gloS X G (c.d.fact 11 rfl)
  d_is_twofold := c.d.def_ 4 rfl
  g_is_twofold := He.glo_ok X G (c.d.fact 12 rfl)
  n_tuple := He.free_ok X G (c.d.fact 13 rfl)
  d_is_step := c.d.def_ 5 rfl
  g_is_step := He.glo_ok X G (c.d.fact 14 rfl)
  w_WORDS := gloT (zs := [("go" : Str), ("copy" : Str), ("start" : Str), ("mark" : Str), ("close" : Str), ("read" : Str), ("write" : Str), ("wait" : Str), ("stay" : Str), ("end" : Str)]) X G (c.d.fact 15 rfl) (exAll_at c.more 0 rfl) (Nat.le_of_ble_eq_true rfl) rfl
  d_is_event := c.d.def_ 6 rfl
  g_is_event := He.glo_ok X G (c.d.fact 16 rfl)
  w_EVENT_WORDS := gloT (zs := [("step" : Str), ("careful" : Str), ("mark" : Str)]) X G (c.d.fact 17 rfl) (exAll_at c.more 1 rfl) (Nat.le_of_ble_eq_true rfl) rfl
  w_CAREFULS := gloT (zs := [("on" : Str), ("off" : Str)]) X G (c.d.fact 18 rfl) (exAll_at c.more 2 rfl) (Nat.le_of_ble_eq_true rfl) rfl
  d_want := c.d.def_ 7 rfl
  g_want := He.glo_ok X G (c.d.fact 19 rfl)
  ct_NotUsable := if_pos (by decide +kernel)
  g_NotUsable := He.glo_ok X G (c.d.fact 20 rfl)
  ox_NotUsable := oexB_ok (exAll_at c.more 3 rfl)
  ini_NotUsable := He.eqO_ok (He.ba (exAll_at c.more 4 rfl)).1
  inf_NotUsable := of_decide_eq_true (He.ba (exAll_at c.more 4 rfl)).2
  xi_NotUsable := xi_NotUsable X G c
  d_Reader_init := c.d.def_ 8 rfl
  ct_Reader := if_pos (by decide +kernel)
  cls_Reader := He.cls_ok (c.d.fact 21 rfl)
  na_Reader_held_words := He.noat_ok (c.d.fact 22 rfl)
  na_Reader_held_count := He.noat_ok (c.d.fact 23 rfl)
  na_Reader_held_line := He.noat_ok (c.d.fact 24 rfl)
  d_Reader_fail_unless := c.d.def_ 9 rfl
  ct_InvalidText := if_pos (by decide +kernel)
  g_InvalidText := He.glo_ok X G (c.d.fact 25 rfl)
  ox_InvalidText := oexB_ok (exAll_at c.more 5 rfl)
  ini_InvalidText := He.eqO_ok (He.ba (exAll_at c.more 6 rfl)).1
  inf_InvalidText := of_decide_eq_true (He.ba (exAll_at c.more 6 rfl)).2
  xi_InvalidText := xi_InvalidText X G c
  d_Reader_take := c.d.def_ 10 rfl
  me_Reader_fail_unless := He.meth_ok (c.d.fact 26 rfl)
  d_Reader_take_among := c.d.def_ 11 rfl
  me_Reader_take := He.meth_ok (c.d.fact 27 rfl)
  d_Reader_take_name := c.d.def_ 12 rfl
  d_number_of := c.d.def_ 13 rfl
  g_number_of := He.glo_ok X G (c.d.fact 28 rfl)
  w_MOST_DIGITS := gloI X G (c.d.fact 29 rfl)
  w_DIGITS := gloS X G (c.d.fact 30 rfl)
  d_Reader_take_number := c.d.def_ 14 rfl
  d_Reader_stop := c.d.def_ 15 rfl
  d_words_of_step := c.d.def_ 16 rfl
  g_words_of_step := He.glo_ok X G (c.d.fact 31 rfl)
  d_step_text := c.d.def_ 17 rfl
  g_step_text := He.glo_ok X G (c.d.fact 32 rfl)
  d_step_by := c.d.def_ 18 rfl
  g_step_by := He.glo_ok X G (c.d.fact 33 rfl)
  w_NUMBERED := gloT (zs := [("go" : Str), ("aside" : Str)]) X G (c.d.fact 34 rfl) (exAll_at c.more 7 rfl) (Nat.le_of_ble_eq_true rfl) rfl
  w_BARE := gloT (zs := [("copy" : Str), ("start" : Str), ("mark" : Str), ("close" : Str), ("read" : Str), ("write" : Str), ("wait" : Str), ("end" : Str)]) X G (c.d.fact 35 rfl) (exAll_at c.more 8 rfl) (Nat.le_of_ble_eq_true rfl) rfl
  me_Reader_take_number := He.meth_ok (c.d.fact 36 rfl)
  me_Reader_stop := He.meth_ok (c.d.fact 37 rfl)
  me_Reader_take_among := He.meth_ok (c.d.fact 38 rfl)
  d_event_by := c.d.def_ 19 rfl
  g_event_by := He.glo_ok X G (c.d.fact 39 rfl)
  me_Reader_take_name := He.meth_ok (c.d.fact 40 rfl)
  d_read_event := c.d.def_ 20 rfl
  g_read_event := He.glo_ok X G (c.d.fact 41 rfl)
  mk_Reader := He.mkr_ok (c.d.fact 42 rfl)
  g_Reader := He.glo_ok X G (c.d.fact 43 rfl)
  d_line_of := c.d.def_ 21 rfl
  g_line_of := He.glo_ok X G (c.d.fact 44 rfl)
  d_event_line := c.d.def_ 22 rfl
  g_event_line := He.glo_ok X G (c.d.fact 45 rfl)
  d_law_feed := c.d.def_ 23 rfl
  g__law_feed := He.glo_ok X G (c.d.fact 46 rfl)
  d_law_draw := c.d.def_ 24 rfl
  g__law_draw := He.glo_ok X G (c.d.fact 47 rfl)
  d_law_any := c.d.def_ 25 rfl
  g__law_any := He.glo_ok X G (c.d.fact 48 rfl)
  d_law_names := c.d.def_ 26 rfl
  g__law_names := He.glo_ok X G (c.d.fact 49 rfl)
  n_range := He.free_ok X G (c.d.fact 50 rfl)
  d_law_strange := c.d.def_ 27 rfl
  g__law_strange := He.glo_ok X G (c.d.fact 51 rfl)
  d_law_is_number := c.d.def_ 28 rfl
  g__law_is_number := He.glo_ok X G (c.d.fact 52 rfl)
  d_law_is_name := c.d.def_ 29 rfl
  g__law_is_name := He.glo_ok X G (c.d.fact 53 rfl)
  d_law_is_step := c.d.def_ 30 rfl
  g__law_is_step := He.glo_ok X G (c.d.fact 54 rfl)
  d_law_is_event := c.d.def_ 31 rfl
  g__law_is_event := He.glo_ok X G (c.d.fact 55 rfl)
  d_law_any_event := c.d.def_ 32 rfl
  g__law_any_event := He.glo_ok X G (c.d.fact 56 rfl)
  d_law_stands := c.d.def_ 33 rfl
  g__law_stands := He.glo_ok X G (c.d.fact 57 rfl)
  d_law_field := c.d.def_ 34 rfl
  g__law_field := He.glo_ok X G (c.d.fact 58 rfl)
  d_law_read_event := c.d.def_ 35 rfl
  g__law_read_event := He.glo_ok X G (c.d.fact 59 rfl)
  d_law_event_line := c.d.def_ 36 rfl
  g__law_event_line := He.glo_ok X G (c.d.fact 60 rfl)
  d_law_bent_text := c.d.def_ 37 rfl
  g__law_bent_text := He.glo_ok X G (c.d.fact 61 rfl)
  d_law_lines := c.d.def_ 38 rfl
  g__law_lines := He.glo_ok X G (c.d.fact 62 rfl)
  d_law_is_read := c.d.def_ 39 rfl
  g__law_is_read := He.glo_ok X G (c.d.fact 63 rfl)
  tab_law_is_read := tab_of (x := "_law_is_read") (by decide +kernel) c.tu hT (c.d.def_ 39 rfl)
  n_repr := He.free_ok X G (c.d.fact 64 rfl)
  d_law := c.d.def_ 40 rfl
  g_law := He.glo_ok X G (c.d.fact 65 rfl)
  tab_law := tab_of (x := "law") (by decide +kernel) c.tu hT (c.d.def_ 40 rfl)
  exm_PipeError := exmB_ok (exAll_at c.more 9 rfl)
  g_PipeError := He.glo_ok X G (c.d.fact 66 rfl)
  exq := exqB_ok (exAll_at c.more 10 rfl)
  kit_NothingToUndo := kitB_ok (exAll_at c.more 11 rfl)
  g_NothingToUndo := He.glo_ok X G (c.d.fact 67 rfl)
  kit_InvalidEvent := kitB_ok (exAll_at c.more 12 rfl)
  g_InvalidEvent := He.glo_ok X G (c.d.fact 68 rfl)
  kit_NotUsable := kitB_ok (exAll_at c.more 13 rfl)
  kit_InvalidRow := kitB_ok (exAll_at c.more 14 rfl)
  g_InvalidRow := He.glo_ok X G (c.d.fact 69 rfl)
  kit_InvalidText := kitB_ok (exAll_at c.more 15 rfl)
  kit_Broken := kitB_ok (exAll_at c.more 16 rfl)
  g_Broken := He.glo_ok X G (c.d.fact 70 rfl)
  kit_TextError := kitB_ok (exAll_at c.more 17 rfl)
  g_TextError := He.glo_ok X G (c.d.fact 71 rfl)
  kit_HouseError := kitB_ok (exAll_at c.more 18 rfl)
  g_HouseError := He.glo_ok X G (c.d.fact 72 rfl)
  kit_ProgramError := kitB_ok (exAll_at c.more 19 rfl)
  g_ProgramError := He.glo_ok X G (c.d.fact 73 rfl)
  kit_PaperError := kitB_ok (exAll_at c.more 20 rfl)
  g_PaperError := He.glo_ok X G (c.d.fact 74 rfl)
  kit_ValueError := kitB_ok (exAll_at c.more 21 rfl)
  n_ValueError := He.free_ok X G (c.d.fact 75 rfl)
  d_law_heard := c.d.def_ 41 rfl
  g__law_heard := He.glo_ok X G (c.d.fact 76 rfl)
end
def hd_loose : List Str := (["_wall", "PipeError", "PaperError", "ProgramError", "HouseError", "TextError", "NotUsable", "InvalidEvent", "NothingToUndo", "Broken", "InvalidText", "InvalidRow", "WORDS", "LETTERS", "MOST_LETTERS", "is_integer", "is_number", "is_among", "is_name", "is_twofold", "is_step", "CAREFULS", "EVENT_WORDS", "is_event", "want", "DIGITS", "MOST_DIGITS", "Reader", "number_of", "words_of_step"] : List Str) ++ (["step_text", "NUMBERED", "BARE", "step_by", "event_by", "read_event", "line_of", "event_line", "_law_feed", "_law_draw", "_law_any", "_law_names", "_law_heard", "_law_strange", "_law_is_number", "_law_is_name", "_law_is_step", "_law_is_event", "_law_any_event", "_law_stands", "_law_field", "_law_read_event", "_law_event_line", "_law_bent_text", "_law_is_read", "_law_lines"] : List Str)
abbrev hd_law : Nat := 66
abbrev hd_lev : Nat := 14
end VL

set_option Elab.async false
set_option autoImplicit false
set_option linter.all false
set_option maxRecDepth 100000
set_option maxHeartbeats 4000000
/-! K72a: the plain law of k72: the reader of lines. -/
namespace VL
open PySem
abbrev rfs (ws : List Str) (l : Int) (k : Nat) : List (Str × SV) := [("held_words", .d (.list (ws.map .str))), ("held_line", .d (.int l)), ("held_count", .d (.int (k : Nat)))]
abbrev rdr (ws : List Str) (l : Int) (k : Nat) : SV := .oi "Reader" (rfs ws l k)
abbrev iTx (l : Int) (k : Nat) : List (Str × D) := [("field", .int (k : Nat)), ("line", .int l)]
section
variable {ws : List Str} {l : Int} {k : Nat} {w : Str} {e : Env} {b : Bool} {zs : List Str}
theorem fu_t' : f_Reader_fail_unless [rdr ws l k, .d (.bool true)] = .ok (.d .none) [rdr ws l k, .unset] := rfl
theorem fu_f' : f_Reader_fail_unless [rdr ws l (k + 1), .d (.bool false)] = .err "InvalidText" (iTx l k) [rdr ws l (k + 1), .unset] := by
  have h : f_Reader_fail_unless [rdr ws l (k + 1), .d (.bool false)] = .err "InvalidText" [("field", .int (((k + 1 : Nat) : Int) - 1)), ("line", .int l)] [rdr ws l (k + 1), .unset] := rfl
  rw [h]
  have e : ((k + 1 : Nat) : Int) - 1 = (k : Nat) := by omega
  rw [e]
theorem fu_t {m : Md D} (H : m (rdr ws l k :: e) = .ok (.bool true) (rdr ws l k :: e)) : oMethN 2 0 "Reader" "fail_unless" f_Reader_fail_unless [] (aaV m aaN) (rdr ws l k :: e) = .ok (.d .none) (rdr ws l k :: e) :=
  meth0 rfl (av_ok H aaN_ok) rfl rfl fu_t'
theorem fu_f {m : Md D} (H : m (rdr ws l (k + 1) :: e) = .ok (.bool false) (rdr ws l (k + 1) :: e)) : oMethN 2 0 "Reader" "fail_unless" f_Reader_fail_unless [] (aaV m aaN) (rdr ws l (k + 1) :: e) = .err "InvalidText" (iTx l k) (rdr ws l (k + 1) :: e) :=
  meth0e rfl (av_ok H aaN_ok) rfl rfl fu_f'
theorem cnt_ok : sFldAdd 0 "Reader" "held_count" (eK (.int 1)) (rdr ws l k :: e) = .nx (rdr ws l (k + 1) :: e) := rfl
theorem cnt_le (h : k < ws.length) : eOp2 dLe (eFld 0 "Reader" "held_count") (eL dLen (aCons (eFld 0 "Reader" "held_words") aNil)) (rdr ws l (k + 1) :: e) = .ok (.bool true) (rdr ws l (k + 1) :: e) := by
  refine op2_ok (x := .int ((k + 1 : Nat) : Int)) (y := .int (ws.length : Nat)) rfl (eL1 (x := .list (ws.map .str)) rfl ?_) ?_
  · show some (PyData.int _) = _; simp
  · show some (PyData.bool _) = _
    rw [decide_eq_true (by omega)]
theorem cnt_gt (h : ws.length ≤ k) : eOp2 dLe (eFld 0 "Reader" "held_count") (eL dLen (aCons (eFld 0 "Reader" "held_words") aNil)) (rdr ws l (k + 1) :: e) = .ok (.bool false) (rdr ws l (k + 1) :: e) := by
  refine op2_ok (x := .int ((k + 1 : Nat) : Int)) (y := .int (ws.length : Nat)) rfl (eL1 (x := .list (ws.map .str)) rfl ?_) ?_
  · show some (PyData.int _) = _; simp
  · show some (PyData.bool _) = _
    rw [decide_eq_false (by omega)]
theorem word_at (h : ws[k]? = some w) : eOp2 dIx (eFld 0 "Reader" "held_words") (eOp2 dSub (eFld 0 "Reader" "held_count") (eK (.int 1))) (rdr ws l (k + 1) :: e) = .ok (.str w) (rdr ws l (k + 1) :: e) := by
  refine op2_ok (x := .list (ws.map .str)) (y := .int (k : Nat)) rfl (op2_ok (x := .int ((k + 1 : Nat) : Int)) (y := .int 1) rfl rfl ?_) ?_
  · show some (PyData.int _) = _
    rw [show ((k + 1 : Nat) : Int) - 1 = (k : Nat) by omega]
  · show L2.atI (ws.map PyData.str) (k : Nat) = _
    have hk := (List.getElem?_eq_some_iff.mp h).1
    unfold L2.atI L2.ixN
    rw [if_pos (by omega), if_pos (by simp; omega)]
    simp [h]
theorem take_ok (h : ws[k]? = some w) (ho : PyData.strOk w = true) (hn : w ≠ "") : f_Reader_take [rdr ws l k] = .ok (.d (.str w)) [rdr ws l (k + 1)] := by
  refine callS_rt (e := [rdr ws l (k + 1), .d (.str w)]) ?_
  refine (seq_nx cnt_ok).trans ?_
  refine (seq_nx (ex_ok (fu_t (cnt_le (List.getElem?_eq_some_iff.mp h).1)))).trans ?_
  refine (seq_nx (st_n (word_at h))).trans ?_
  refine (seq_nx (ex_ok (fu_t ?_))).trans (rtD rfl)
  refine op2_ok (x := .str w) (y := .str "") rfl rfl ?_
  refine (dNe_str ho (by decide +kernel)).trans ?_
  rw [beq_false_of_ne hn]
  rfl
theorem take_lo (h : ws.length ≤ k) : f_Reader_take [rdr ws l k] = .err "InvalidText" (iTx l k) [rdr ws l (k + 1)] := by
  refine callS_err (e := [rdr ws l (k + 1), .unset]) ?_
  refine (seq_nx cnt_ok).trans ?_
  exact seq_err (ex_err (fu_f (cnt_gt h)))
theorem take_e (h : ws[k]? = some "") : f_Reader_take [rdr ws l k] = .err "InvalidText" (iTx l k) [rdr ws l (k + 1)] := by
  refine callS_err (e := [rdr ws l (k + 1), .d (.str "")]) ?_
  refine (seq_nx cnt_ok).trans ?_
  refine (seq_nx (ex_ok (fu_t (cnt_le (List.getElem?_eq_some_iff.mp h).1)))).trans ?_
  refine (seq_nx (st_n (word_at h))).trans ?_
  exact seq_err (ex_err (fu_f (op2_ok rfl rfl (dNe_str (by decide +kernel) (by decide +kernel)))))
end
end VL
namespace VL
open PySem
abbrev abc : Str := "abcdefghijklmnopqrstuvwxyz"
abbrev dig : Str := "0123456789"
/-- a name -/
def isNm (w : Str) : Bool := (decide (1 ≤ w.length) && decide (w.length ≤ 8)) && allIn abc w
/-- signs of a number -/
def isDg (w : Str) : Bool := (decide (1 ≤ w.length) && decide (w.length ≤ 60)) && allIn dig w
/-- a number as it is written -/
def isNo (w : Str) : Bool := isDg w && (w == "0" || !((⟨#[w.cps.toList.headD 0]⟩ : Str) == "0"))
def noV (w : Str) : Int := (NumText.digitsVal w.cps.toList : Nat)
section
variable {w : Str} {e : Env}
theorem dLen_str (hl : w.length ≤ sizeLine) : dLen [.str w] = some (.int (w.length : Nat)) := if_pos hl
theorem nm_ok (hl : w.length ≤ sizeLine) : f_is_name [.d (.str w)] = .ok (.d (.bool (isNm w))) [.unset] := by
  refine callS_rt (e := [.d (.str w), .unset]) (rtD ?_)
  refine (ean_t (op1_ok rfl rfl)).trans ?_
  refine (ean_b (ch_ok (p := decide (1 ≤ w.length)) (q := decide (w.length ≤ 8)) rfl (eL1 rfl (dLen_str hl)) ?_ rfl ?_) (eL1 (lc_all rfl hl) dAll_map)).trans rfl
  · show some (PyData.bool (decide ((1 : Int) ≤ (w.length : Nat)))) = _
    congr 2; simp only [decide_eq_decide]; omega
  · show some (PyData.bool (decide ((w.length : Int) ≤ 8))) = _
    congr 2; simp only [decide_eq_decide]; omega
/-- the first sign -/
theorem ix0 {l : Md D} (H : l e = .ok (.str w) e) (hl : w.length ≤ sizeLine) (h : 1 ≤ w.length) : eOp2 dIx l (eK (.int 0)) e = .ok (.str ⟨#[w.cps.toList.headD 0]⟩) e := by
  refine op2_ok H rfl ?_
  show (if w.length ≤ sizeLine then (L2.atI w.cps.toList 0).map (fun c => PyData.str ⟨#[c]⟩) else none) = _
  rw [if_pos hl]
  have h : 1 ≤ w.cps.toList.length := by rw [Array.length_toList]; exact h
  cases q : w.cps.toList with
  | nil => rw [q] at h; simp at h
  | cons c r =>
    unfold L2.atI L2.ixN
    rw [if_pos (by omega), if_pos (by simp)]
    rfl
theorem sig_ok (h : PyData.strOk w = true) : PyData.strOk ⟨#[w.cps.toList.headD 0]⟩ = true := by
  have h : w.cps.all (· < 0x110000) = true := h
  rw [Array.all_eq_true'] at h
  cases q : w.cps.toList with
  | nil => decide +kernel
  | cons c r =>
    have := h c (Array.mem_toList_iff.mp (by rw [q]; exact List.mem_cons_self ..))
    show (#[c] : Array Nat).all (· < 0x110000) = true
    simpa using this
theorem dig_mem : ∀ c ∈ dig.cps.toList, 48 ≤ c ∧ c ≤ 57 := by decide +kernel
theorem allIn_dig (h : allIn dig w = true) : NumText.AllDigits w.cps.toList := fun c hc => dig_mem c (of_decide_eq_true (List.all_eq_true.mp h c hc))
theorem int_no (h : isDg w = true) : dInt [.str w] = some (.int (noV w)) := by
  obtain ⟨h1, h2⟩ := Bool.and_eq_true_iff.mp h
  obtain ⟨h3, h4⟩ := Bool.and_eq_true_iff.mp h1
  have h3 := of_decide_eq_true h3
  have h4 := of_decide_eq_true h4
  show (if w.length ≤ 640 then (intText? w).map PyData.int else none) = _
  have hne : w.cps.toList ≠ [] := fun z => by
    have q : w.cps.toList.length = w.length := Array.length_toList
    rw [z] at q
    simp at q
    omega
  rw [if_pos (by omega), intText_digits (allIn_dig h2) hne (by omega)]
  rfl
theorem no_ok (hl : w.length ≤ sizeLine) (ho : PyData.strOk w = true) : f_number_of [.d (.str w)] = .ok (.d (if isNo w then .int (noV w) else .none)) [.unset] := by
  have t1 : tNt (tCh dLe dLe (eK (.int 1)) (eL dLen (aCons (eV 0) aNil)) (eK (.int 60))) [.d (.str w), .unset] = .ok (!(decide (1 ≤ w.length) && decide (w.length ≤ 60))) [.d (.str w), .unset] := by
    refine tnt_ok (tch_ok (p := decide (1 ≤ w.length)) (q := decide (w.length ≤ 60)) rfl (eL1 rfl (dLen_str hl)) ?_ rfl ?_)
    · show some (PyData.bool (decide ((1 : Int) ≤ (w.length : Nat)))) = _
      congr 2; simp only [decide_eq_decide]; omega
    · show some (PyData.bool (decide ((w.length : Int) ≤ 60))) = _
      congr 2; simp only [decide_eq_decide]; omega
  have t2 : tNt (tB (eL dAll (aCons (eLc (iOf itS (eV 0)) [1] (gN 1) tYs (eOp2 dIn (eV 1) (eK (.str dig)))) aNil)) truthS) [.d (.str w), .unset] = .ok (!allIn dig w) [.d (.str w), .unset] := tnt_ok (tb (eL1 (lc_all rfl hl) dAll_map))
  have t := tor_b t1 t2
  have e0 : (!(decide (1 ≤ w.length) && decide (w.length ≤ 60)) || !allIn dig w) = !isDg w := by unfold isDg; generalize (decide (1 ≤ w.length) && decide (w.length ≤ 60)) = a; cases a <;> rfl
  rw [e0] at t
  cases hd : isDg w with
  | false =>
    rw [hd] at t
    have e1 : isNo w = false := by unfold isNo; rw [hd]; rfl
    rw [e1]
    exact callS_rt (e := [.d (.str w), .unset]) ((seq_rt (g := sIf _ _ _) ((if_t t).trans (rtD rfl))).trans rfl)
  | true =>
    rw [hd] at t
    refine callS_rt (e := [.d (.str w), .unset]) ((seq_nx (g := sIf _ _ _) ((if_f t).trans rfl)).trans (rtD ?_))
    have h1 : 1 ≤ w.length := by
      have := (Bool.and_eq_true_iff.mp (Bool.and_eq_true_iff.mp hd).1).1
      exact of_decide_eq_true this
    have ta := tan_b (tcm_ok (ix0 (l := eV 0) (e := [.d (.str w), .unset]) rfl hl h1) rfl (dEq_str (sig_ok ho) (by decide +kernel) : dEq _ (.str "0") = _)) (tcm_ok (a := eV 0) rfl rfl (dNe_str ho (by decide +kernel) : dNe _ (.str "0") = _))
    have e1 : isNo w = !((⟨#[w.cps.toList.headD 0]⟩ : Str) == "0" && !(w == "0")) := by
      unfold isNo; rw [hd, Bool.true_and, Bool.not_and, Bool.not_not, Bool.or_comm]
    rw [e1]
    cases hq : ((⟨#[w.cps.toList.headD 0]⟩ : Str) == "0" && !(w == "0")) with
    | true =>
      rw [hq] at ta
      exact (eif_t ta).trans rfl
    | false =>
      rw [hq] at ta
      exact (eif_f ta).trans (eL1 rfl (int_no hd))
theorem no_t (hl : w.length ≤ sizeLine) (ho : PyData.strOk w = true) (q : isNo w = true) : f_number_of [.d (.str w)] = .ok (.d (.int (noV w))) [.unset] := by
  rw [no_ok hl ho, q]; rfl
theorem no_f (hl : w.length ≤ sizeLine) (ho : PyData.strOk w = true) (q : isNo w = false) : f_number_of [.d (.str w)] = .ok (.d .none) [.unset] := by
  rw [no_ok hl ho, q]; rfl
end
end VL
namespace VL
open PySem
/-- the word at k, if it can stand there -/
def tk (ws : List Str) (k : Nat) (t : Str → Bool) : Option Str := match ws[k]? with
  | some w => if (!(w == "") && t w) = true then some w else none
  | none => none
/-- a row of words that are fit to be looked at -/
def WOk (ws : List Str) : Prop := ∀ w ∈ ws, PyData.strOk w = true ∧ w.length ≤ sizeLine
section
variable {ws : List Str} {l : Int} {k : Nat} {w : Str} {e : Env} {b : Bool} {zs : List Str} {t : Str → Bool}
theorem WOk.at (h : WOk ws) (hk : ws[k]? = some w) : PyData.strOk w = true ∧ w.length ≤ sizeLine := h w (List.mem_of_getElem? hk)
theorem tm_ok (F : f_Reader_take [rdr ws l k] = .ok (.d (.str w)) [rdr ws l (k + 1)]) : oMethN 1 0 "Reader" "take" f_Reader_take [] aaN (rdr ws l k :: e) = .ok (.d (.str w)) (rdr ws l (k + 1) :: e) := meth0 rfl aaN_ok rfl rfl F
theorem tm_err (F : f_Reader_take [rdr ws l k] = .err "InvalidText" (iTx l k) [rdr ws l (k + 1)]) : oMethN 1 0 "Reader" "take" f_Reader_take [] aaN (rdr ws l k :: e) = .err "InvalidText" (iTx l k) (rdr ws l (k + 1) :: e) := meth0e rfl aaN_ok rfl rfl F
/-- the three ways of taking a word -/
theorem tk_cases (hW : WOk ws) : (f_Reader_take [rdr ws l k] = .err "InvalidText" (iTx l k) [rdr ws l (k + 1)] ∧ ∀ t, tk ws k t = none) ∨
    ∃ w, ws[k]? = some w ∧ PyData.strOk w = true ∧ w.length ≤ sizeLine ∧ f_Reader_take [rdr ws l k] = .ok (.d (.str w)) [rdr ws l (k + 1)] ∧ ∀ t, tk ws k t = if t w = true then some w else none := by
  cases h : ws[k]? with
  | none => exact .inl ⟨take_lo (List.getElem?_eq_none_iff.mp h), fun t => by unfold tk; rw [h]⟩
  | some w =>
    by_cases hn : w = ""
    · subst hn
      exact .inl ⟨take_e h, fun t => by unfold tk; rw [h]; rfl⟩
    · refine .inr ⟨w, rfl, (hW.at h).1, (hW.at h).2, take_ok h (hW.at h).1 hn, fun t => ?_⟩
      unfold tk
      rw [h]
      simp only [beq_false_of_ne hn, Bool.not_false, Bool.true_and]
/-- a word taken, then a test of it -/
theorem among_ok (hW : WOk ws) (hz : SeqAt.shaped (.tuple (zs.map PyData.str)) = true) : f_Reader_take_among [rdr ws l k, .d (.tuple (zs.map .str))] =
    match tk ws k (memS zs) with
    | some w => .ok (.d (.str w)) [rdr ws l (k + 1), .unset]
    | none => .err "InvalidText" (iTx l k) [rdr ws l (k + 1), .unset] := by
  rcases tk_cases (l := l) (k := k) hW with ⟨h1, h2⟩ | ⟨w, hw, ho, hl, h1, h2⟩
  · rw [h2]
    exact callS_err (e := [rdr ws l (k + 1), .d (.tuple (zs.map .str)), .unset]) (seq_err (st_err (toD_err (tm_err h1))))
  · rw [h2]
    cases q : memS zs w with
    | true => exact callS_rt (e := [rdr ws l (k + 1), .d (.tuple (zs.map .str)), .d (.str w)]) ((seq_nx (st_n (toD_ok (tm_ok h1)))).trans ((seq_nx (ex_ok (fu_t (op2_ok rfl rfl ((dIn_tup ho hz).trans (by rw [q])))))).trans (rtD rfl)))
    | false => exact callS_err (e := [rdr ws l (k + 1), .d (.tuple (zs.map .str)), .d (.str w)]) ((seq_nx (st_n (toD_ok (tm_ok h1)))).trans (seq_err (ex_err (fu_f (op2_ok rfl rfl ((dIn_tup ho hz).trans (by rw [q])))))))
theorem name_ok (hW : WOk ws) : f_Reader_take_name [rdr ws l k] =
    match tk ws k isNm with
    | some w => .ok (.d (.str w)) [rdr ws l (k + 1)]
    | none => .err "InvalidText" (iTx l k) [rdr ws l (k + 1)] := by
  rcases tk_cases (l := l) (k := k) hW with ⟨h1, h2⟩ | ⟨w, hw, ho, hl, h1, h2⟩
  · rw [h2]
    exact callS_err (e := [rdr ws l (k + 1), .unset]) (seq_err (st_err (toD_err (tm_err h1))))
  · rw [h2]
    cases q : isNm w with
    | true => exact callS_rt (e := [rdr ws l (k + 1), .d (.str w)]) ((seq_nx (st_n (toD_ok (tm_ok h1)))).trans ((seq_nx (ex_ok (fu_t (toD_ok (c1 (x := .str w) rfl ((nm_ok hl).trans (by rw [q]))))))).trans (rtD rfl)))
    | false => exact callS_err (e := [rdr ws l (k + 1), .d (.str w)]) ((seq_nx (st_n (toD_ok (tm_ok h1)))).trans (seq_err (ex_err (fu_f (toD_ok (c1 (x := .str w) rfl ((nm_ok hl).trans (by rw [q]))))))))
theorem num_ok (hW : WOk ws) : f_Reader_take_number [rdr ws l k] =
    match tk ws k isNo with
    | some w => .ok (.d (.int (noV w))) [rdr ws l (k + 1)]
    | none => .err "InvalidText" (iTx l k) [rdr ws l (k + 1)] := by
  rcases tk_cases (l := l) (k := k) hW with ⟨h1, h2⟩ | ⟨w, hw, ho, hl, h1, h2⟩
  · rw [h2]
    exact callS_err (e := [rdr ws l (k + 1), .unset]) (seq_err (st_err (toD_err (callA_err (av_err (toD_err (tm_err h1)))))))
  · rw [h2]
    cases q : isNo w with
    | true =>
      refine callS_rt (e := [rdr ws l (k + 1), .d (.int (noV w))]) ?_
      refine (seq_nx (st_n (toD_ok (c1 (toD_ok (tm_ok h1)) (no_t hl ho q))))).trans ?_
      refine (seq_nx (ex_ok (fu_t ?_))).trans (rtD rfl)
      exact op2_ok (x := .int (noV w)) (y := .none) rfl rfl rfl
    | false =>
      refine callS_err (e := [rdr ws l (k + 1), .d .none]) ?_
      refine (seq_nx (st_n (toD_ok (c1 (toD_ok (tm_ok h1)) (no_f hl ho q))))).trans ?_
      refine seq_err (ex_err (fu_f ?_))
      exact op2_ok (x := .none) (y := .none) rfl rfl rfl
theorem stop_ok : f_Reader_stop [rdr ws l k] = if ws.length ≤ k then .ok (.d .none) [rdr ws l (k + 1)] else .err "InvalidText" (iTx l k) [rdr ws l (k + 1)] := by
  by_cases h : ws.length ≤ k
  · rw [if_pos h]
    refine callS_nx (e := [rdr ws l (k + 1)]) ((seq_nx cnt_ok).trans (ex_ok (fu_t ?_)))
    refine op2_ok (x := .int ((k + 1 : Nat) : Int)) (y := .int (ws.length : Nat)) rfl (eL1 (x := .list (ws.map .str)) rfl ?_) ?_
    · show some (PyData.int _) = _; simp
    · show some (PyData.bool _) = _
      rw [decide_eq_true (by omega)]
  · rw [if_neg h]
    refine callS_err (e := [rdr ws l (k + 1)]) ((seq_nx cnt_ok).trans (ex_err (fu_f ?_)))
    refine op2_ok (x := .int ((k + 1 : Nat) : Int)) (y := .int (ws.length : Nat)) rfl (eL1 (x := .list (ws.map .str)) rfl ?_) ?_
    · show some (PyData.int _) = _; simp
    · show some (PyData.bool _) = _
      rw [decide_eq_false (by omega)]
end
end VL
namespace VL
open PySem
abbrev goW : List Str := ["go", "aside"]
abbrev stW : List Str := ["go", "aside", "copy", "start", "mark", "close", "read", "write", "wait", "end"]
abbrev evW : List Str := ["step", "careful", "mark"]
abbrev caW : List Str := ["on", "off"]
/-- at the end, or not -/
def fin (ws : List Str) (k : Nat) (d : D) : Except Nat D := if ws.length ≤ k then .ok d else .error k
def pStep (ws : List Str) : Except Nat D := match tk ws 1 isNo with
  | none => .error 1
  | some a => match tk ws 2 (memS stW) with
    | none => .error 2
    | some w => if memS goW w = true then (match tk ws 3 isNo with
        | none => .error 3
        | some b => fin ws 4 (.tuple [.int (noV a), .str w, .int (noV b)]))
      else fin ws 3 (.tuple [.int (noV a), .str w, .int (-1)])
def pEvent (ws : List Str) : Except Nat D := match tk ws 0 (memS evW) with
  | none => .error 0
  | some kind => if kind = "step" then (match pStep ws with
      | .ok d => .ok (.tuple [.str kind, d])
      | .error k => .error k)
    else match tk ws 1 (if kind = "careful" then memS caW else isNm) with
      | none => .error 1
      | some w => fin ws 2 (.tuple [.str kind, .str w])
section
variable {ws : List Str} {l : Int} {k : Nat} {w : Str} {e : Env} {b : Bool} {zs : List Str} {t : Str → Bool}
theorem tk_some (hW : WOk ws) (h : tk ws k t = some w) : ws[k]? = some w ∧ PyData.strOk w = true ∧ w.length ≤ sizeLine ∧ t w = true := by
  unfold tk at h
  cases q : ws[k]? with
  | none => rw [q] at h; cases h
  | some u =>
    rw [q] at h
    simp only at h
    split at h
    · rename_i hc
      cases h
      exact ⟨rfl, (hW.at q).1, (hW.at q).2, (Bool.and_eq_true_iff.mp hc).2⟩
    · cases h
theorem ma_ok (hW : WOk ws) (hz : SeqAt.shaped (.tuple (zs.map PyData.str)) = true) {m : Md D} (H : m (rdr ws l k :: e) = .ok (.tuple (zs.map .str)) (rdr ws l k :: e)) (h : tk ws k (memS zs) = some w) : oMethN 2 0 "Reader" "take_among" f_Reader_take_among [] (aaV m aaN) (rdr ws l k :: e) = .ok (.d (.str w)) (rdr ws l (k + 1) :: e) :=
  meth0 rfl (av_ok H aaN_ok) rfl rfl ((among_ok hW hz).trans (by rw [h]))
theorem ma_err (hW : WOk ws) (hz : SeqAt.shaped (.tuple (zs.map PyData.str)) = true) {m : Md D} (H : m (rdr ws l k :: e) = .ok (.tuple (zs.map .str)) (rdr ws l k :: e)) (h : tk ws k (memS zs) = none) : oMethN 2 0 "Reader" "take_among" f_Reader_take_among [] (aaV m aaN) (rdr ws l k :: e) = .err "InvalidText" (iTx l k) (rdr ws l (k + 1) :: e) :=
  meth0e rfl (av_ok H aaN_ok) rfl rfl ((among_ok hW hz).trans (by rw [h]))
theorem mn_ok (hW : WOk ws) (h : tk ws k isNo = some w) : oMethN 1 0 "Reader" "take_number" f_Reader_take_number [] aaN (rdr ws l k :: e) = .ok (.d (.int (noV w))) (rdr ws l (k + 1) :: e) :=
  meth0 rfl aaN_ok rfl rfl ((num_ok hW).trans (by rw [h]))
theorem mn_err (hW : WOk ws) (h : tk ws k isNo = none) : oMethN 1 0 "Reader" "take_number" f_Reader_take_number [] aaN (rdr ws l k :: e) = .err "InvalidText" (iTx l k) (rdr ws l (k + 1) :: e) :=
  meth0e rfl aaN_ok rfl rfl ((num_ok hW).trans (by rw [h]))
theorem mm_ok (hW : WOk ws) (h : tk ws k isNm = some w) : oMethN 1 0 "Reader" "take_name" f_Reader_take_name [] aaN (rdr ws l k :: e) = .ok (.d (.str w)) (rdr ws l (k + 1) :: e) :=
  meth0 rfl aaN_ok rfl rfl ((name_ok hW).trans (by rw [h]))
theorem mm_err (hW : WOk ws) (h : tk ws k isNm = none) : oMethN 1 0 "Reader" "take_name" f_Reader_take_name [] aaN (rdr ws l k :: e) = .err "InvalidText" (iTx l k) (rdr ws l (k + 1) :: e) :=
  meth0e rfl aaN_ok rfl rfl ((name_ok hW).trans (by rw [h]))
theorem ms_t (h : ws.length ≤ k) : oMethN 1 0 "Reader" "stop" f_Reader_stop [] aaN (rdr ws l k :: e) = .ok (.d .none) (rdr ws l (k + 1) :: e) :=
  meth0 rfl aaN_ok rfl rfl (stop_ok.trans (if_pos h))
theorem ms_f (h : ¬ ws.length ≤ k) : oMethN 1 0 "Reader" "stop" f_Reader_stop [] aaN (rdr ws l k :: e) = .err "InvalidText" (iTx l k) (rdr ws l (k + 1) :: e) :=
  meth0e rfl aaN_ok rfl rfl (stop_ok.trans (if_neg h))
theorem goW_ok : SeqAt.shaped (.tuple (goW.map PyData.str)) = true := shT (by decide +kernel)
theorem stW_ok : SeqAt.shaped (.tuple (stW.map PyData.str)) = true := shT (by decide +kernel)
theorem evW_ok : SeqAt.shaped (.tuple (evW.map PyData.str)) = true := shT (by decide +kernel)
theorem caW_ok : SeqAt.shaped (.tuple (caW.map PyData.str)) = true := shT (by decide +kernel)
/-- a result of a def that has the reader -/
def rdRes (ws : List Str) (l : Int) (r : Except Nat D) (x : Res SV) : Prop := match r with
  | .ok d => ∃ k, x = .ok (.d d) [rdr ws l k]
  | .error j => ∃ k, x = .err "InvalidText" (iTx l j) [rdr ws l k]
theorem step_by_ok (hW : WOk ws) : rdRes ws l (pStep ws) (f_step_by [rdr ws l 1]) := by
  unfold pStep
  cases h1 : tk ws 1 isNo with
  | none =>
    exact ⟨_, callS_err (e := [rdr ws l 2, .unset, .unset, .unset]) (seq_err (st_err (toD_err (mn_err hW h1))))⟩
  | some a =>
    have s1 : sSt (gN 1) (oToD (oMethN 1 0 "Reader" "take_number" f_Reader_take_number [] aaN)) [rdr ws l 1, .unset, .unset, .unset] = .nx [rdr ws l 2, .d (.int (noV a)), .unset, .unset] := st_n (toD_ok (mn_ok hW h1))
    simp only
    cases h2 : tk ws 2 (memS stW) with
    | none =>
      refine ⟨_, callS_err (e := [rdr ws l 3, .d (.int (noV a)), .unset, .unset]) ?_⟩
      refine (seq_nx s1).trans ?_
      refine seq_err (st_err (toD_err (ma_err hW stW_ok ?_ h2)))
      exact op2_ok rfl rfl rfl
    | some w =>
      have s2 : sSt (gN 2) (oToD (oMethN 2 0 "Reader" "take_among" f_Reader_take_among [] (aaV (eOp2 dAdd (eK (.tuple [(.str "go"), (.str "aside")])) (eK (.tuple [(.str "copy"), (.str "start"), (.str "mark"), (.str "close"), (.str "read"), (.str "write"), (.str "wait"), (.str "end")]))) aaN))) [rdr ws l 2, .d (.int (noV a)), .unset, .unset] = .nx [rdr ws l 3, .d (.int (noV a)), .d (.str w), .unset] := by
        refine st_n (toD_ok (ma_ok hW stW_ok ?_ h2))
        exact op2_ok rfl rfl rfl
      obtain ⟨_, ho, hl, _⟩ := tk_some hW h2
      have ht : tCm dIn (eV 2) (eK (.tuple (goW.map .str))) [rdr ws l 3, .d (.int (noV a)), .d (.str w), .unset] = .ok (memS goW w) [rdr ws l 3, .d (.int (noV a)), .d (.str w), .unset] := tcm_ok rfl rfl (dIn_tup ho goW_ok)
      simp only
      cases hg : memS goW w with
      | true =>
        rw [hg] at ht
        rw [if_pos rfl]
        cases h3 : tk ws 3 isNo with
        | none =>
          refine ⟨_, callS_err (e := [rdr ws l 4, .d (.int (noV a)), .d (.str w), .unset]) ?_⟩
          refine (seq_nx s1).trans ((seq_nx s2).trans ?_)
          exact seq_err (st_err ((eif_t ht).trans (toD_err (mn_err hW h3))))
        | some b =>
          have s3 : sSt (gN 3) (eIf (tCm dIn (eV 2) (eK (.tuple (goW.map .str)))) (oToD (oMethN 1 0 "Reader" "take_number" f_Reader_take_number [] aaN)) (eOp1 dNeg (eK (.int 1)))) [rdr ws l 3, .d (.int (noV a)), .d (.str w), .unset] = .nx [rdr ws l 4, .d (.int (noV a)), .d (.str w), .d (.int (noV b))] := st_n ((eif_t ht).trans (toD_ok (mn_ok hW h3)))
          unfold fin
          simp only
          by_cases hs : ws.length ≤ 4
          · rw [if_pos hs]
            refine ⟨_, callS_rt (e := [rdr ws l 5, .d (.int (noV a)), .d (.str w), .d (.int (noV b))]) ?_⟩
            refine (seq_nx s1).trans ((seq_nx s2).trans ((seq_nx s3).trans ((seq_nx (ex_ok (ms_t hs))).trans (rtD rfl))))
          · rw [if_neg hs]
            refine ⟨_, callS_err (e := [rdr ws l 5, .d (.int (noV a)), .d (.str w), .d (.int (noV b))]) ?_⟩
            refine (seq_nx s1).trans ((seq_nx s2).trans ((seq_nx s3).trans (seq_err (ex_err (ms_f hs)))))
      | false =>
        rw [hg] at ht
        rw [if_neg Bool.false_ne_true]
        have s3 : sSt (gN 3) (eIf (tCm dIn (eV 2) (eK (.tuple (goW.map .str)))) (oToD (oMethN 1 0 "Reader" "take_number" f_Reader_take_number [] aaN)) (eOp1 dNeg (eK (.int 1)))) [rdr ws l 3, .d (.int (noV a)), .d (.str w), .unset] = .nx [rdr ws l 3, .d (.int (noV a)), .d (.str w), .d (.int (-1))] := st_n ((eif_f ht).trans rfl)
        unfold fin
        by_cases hs : ws.length ≤ 3
        · rw [if_pos hs]
          refine ⟨_, callS_rt (e := [rdr ws l 4, .d (.int (noV a)), .d (.str w), .d (.int (-1))]) ?_⟩
          refine (seq_nx s1).trans ((seq_nx s2).trans ((seq_nx s3).trans ((seq_nx (ex_ok (ms_t hs))).trans (rtD rfl))))
        · rw [if_neg hs]
          refine ⟨_, callS_err (e := [rdr ws l 4, .d (.int (noV a)), .d (.str w), .d (.int (-1))]) ?_⟩
          refine (seq_nx s1).trans ((seq_nx s2).trans ((seq_nx s3).trans (seq_err (ex_err (ms_f hs)))))
end
end VL
namespace VL
open PySem
section
variable {ws : List Str} {l : Int} {k : Nat} {w : Str} {e : Env} {b : Bool} {zs : List Str} {t : Str → Bool}
theorem lend_ok {f : Md SV} {r : SV} {s : SV} (F : f [rdr ws l k] = .ok r [s]) (hs : s.own = true) : oCallN 1 f [] (aaL 0 aaN) (rdr ws l k :: e) = .ok r (s :: e) := by
  refine (call_ok (e := rdr ws l k :: e) (e1 := rdr ws l k :: e) (as := [.ln 0]) (al0 rfl aaN_ok rfl) rfl rfl F).trans ?_
  show Res.ok r ((if s.own = true then s else SV.unset) :: e) = _
  rw [if_pos hs]
theorem lend_err {f : Md SV} {c : Str} {fs : List (Str × D)} {s : SV} (F : f [rdr ws l k] = .err c fs [s]) (hs : s.own = true) : oCallN 1 f [] (aaL 0 aaN) (rdr ws l k :: e) = .err c fs (s :: e) := by
  refine (call_err (e := rdr ws l k :: e) (e1 := rdr ws l k :: e) (as := [.ln 0]) (al0 rfl aaN_ok rfl) rfl rfl F).trans ?_
  show Res.err c fs ((if s.own = true then s else SV.unset) :: e) = _
  rw [if_pos hs]
theorem event_by_ok (hW : WOk ws) : rdRes ws l (pEvent ws) (f_event_by [rdr ws l 0]) := by
  unfold pEvent
  cases h1 : tk ws 0 (memS evW) with
  | none => exact ⟨_, callS_err (e := [rdr ws l 1, .unset, .unset]) (seq_err (st_err (toD_err (ma_err hW evW_ok rfl h1))))⟩
  | some kind =>
    have s1 : sSt (gN 1) (oToD (oMethN 2 0 "Reader" "take_among" f_Reader_take_among [] (aaV (eK (.tuple (evW.map .str))) aaN))) [rdr ws l 0, .unset, .unset] = .nx [rdr ws l 1, .d (.str kind), .unset] := st_n (toD_ok (ma_ok hW evW_ok rfl h1))
    obtain ⟨_, ho, hl, _⟩ := tk_some hW h1
    have ht : ∀ (z : Str) (v : SV), PyData.strOk z = true → tCm dEq (eV 1) (eK (.str z)) [rdr ws l 1, .d (.str kind), v] = .ok (kind == z) [rdr ws l 1, .d (.str kind), v] := fun z v hz => tcm_ok rfl rfl (dEq_str ho hz)
    simp only
    by_cases hk : kind = "step"
    · have t1 := ht "step" .unset (by decide +kernel)
      rw [if_pos hk]
      rw [show (kind == "step") = true by rw [hk]; decide +kernel] at t1
      have hs := step_by_ok (l := l) hW
      cases h2 : pStep ws with
      | ok d =>
        rw [h2] at hs
        obtain ⟨k2, h3⟩ := hs
        refine ⟨k2, callS_rt (e := [rdr ws l k2, .d (.str kind), .unset]) ?_⟩
        refine (seq_nx s1).trans (seq_rt ((if_t t1).trans (rtD ?_)))
        exact eL_ok (cons_ok (x := .str kind) rfl (cons_ok (toD_ok (lend_ok h3 rfl)) aN_ok)) rfl
      | error j =>
        rw [h2] at hs
        obtain ⟨k2, h3⟩ := hs
        refine ⟨k2, callS_err (e := [rdr ws l k2, .d (.str kind), .unset]) ?_⟩
        refine (seq_nx s1).trans (seq_err ((if_t t1).trans (rtDe ?_)))
        refine eL_err ?_
        have hc : aCons (oToD (oCallN 1 f_step_by [] (aaL 0 aaN))) aNil [rdr ws l 1, .d (.str kind), .unset] = .err "InvalidText" (iTx l j) [rdr ws l k2, .d (.str kind), .unset] := cons_err (toD_err (lend_err h3 rfl))
        unfold aCons at hc ⊢
        refine (bnd_ok (m := eV 1) (x := PyData.str kind) (e1 := [rdr ws l 1, .d (.str kind), .unset]) rfl).trans (bnd_err hc)
    · have t1 := ht "step" .unset (by decide +kernel)
      rw [show (kind == "step") = false from beq_false_of_ne hk] at t1
      rw [if_neg hk]
      have t2 := ht "careful" .unset (by decide +kernel)
      have s2 : sIf (tCm dEq (eV 1) (eK (.str "step"))) (sRt (oD (eL dTup (aCons (eV 1) (aCons (oToD (oCallN 1 f_step_by [] (aaL 0 aaN))) aNil))))) sNx [rdr ws l 1, .d (.str kind), .unset] = .nx [rdr ws l 1, .d (.str kind), .unset] := (if_f t1).trans rfl
      have body : ∀ (r : Option Str), tk ws 1 (if kind = "careful" then memS caW else isNm) = r →
          (match r with
          | none => eIf (tCm dEq (eV 1) (eK (.str "careful"))) (oToD (oMethN 2 0 "Reader" "take_among" f_Reader_take_among [] (aaV (eK (.tuple (caW.map .str))) aaN))) (oToD (oMethN 1 0 "Reader" "take_name" f_Reader_take_name [] aaN)) [rdr ws l 1, .d (.str kind), .unset] = .err "InvalidText" (iTx l 1) [rdr ws l 2, .d (.str kind), .unset]
          | some w => eIf (tCm dEq (eV 1) (eK (.str "careful"))) (oToD (oMethN 2 0 "Reader" "take_among" f_Reader_take_among [] (aaV (eK (.tuple (caW.map .str))) aaN))) (oToD (oMethN 1 0 "Reader" "take_name" f_Reader_take_name [] aaN)) [rdr ws l 1, .d (.str kind), .unset] = .ok (.str w) [rdr ws l 2, .d (.str kind), .unset]) := by
        intro r hr
        by_cases hc : kind = "careful"
        · rw [if_pos hc] at hr
          rw [show (kind == "careful") = true by rw [hc]; decide +kernel] at t2
          cases r with
          | none => exact (eif_t t2).trans (toD_err (ma_err hW caW_ok rfl hr))
          | some w => exact (eif_t t2).trans (toD_ok (ma_ok hW caW_ok rfl hr))
        · rw [if_neg hc] at hr
          rw [show (kind == "careful") = false from beq_false_of_ne hc] at t2
          cases r with
          | none => exact (eif_f t2).trans (toD_err (mm_err hW hr))
          | some w => exact (eif_f t2).trans (toD_ok (mm_ok hW hr))
      cases h2 : tk ws 1 (if kind = "careful" then memS caW else isNm) with
      | none =>
        have hb := body _ h2
        refine ⟨_, callS_err (e := [rdr ws l 2, .d (.str kind), .unset]) ?_⟩
        exact (seq_nx s1).trans ((seq_nx s2).trans (seq_err (st_err hb)))
      | some w =>
        have hb := body _ h2
        have s3 := st_n (j := 2) hb
        unfold fin
        simp only
        by_cases hs : ws.length ≤ 2
        · rw [if_pos hs]
          refine ⟨_, callS_rt (e := [rdr ws l 3, .d (.str kind), .d (.str w)]) ?_⟩
          exact (seq_nx s1).trans ((seq_nx s2).trans ((seq_nx s3).trans ((seq_nx (ex_ok (ms_t hs))).trans (rtD rfl))))
        · rw [if_neg hs]
          refine ⟨_, callS_err (e := [rdr ws l 3, .d (.str kind), .d (.str w)]) ?_⟩
          exact (seq_nx s1).trans ((seq_nx s2).trans ((seq_nx s3).trans (seq_err (ex_err (ms_f hs)))))
/-- a piece that is fit to be looked at -/
def POk (s : Str) : Prop := PyData.strOk s = true ∧ s.length ≤ 100000
abbrev spl (s : Str) : List Str := Txt.split s " "
theorem dSplit_ok {s : Str} (h : s.length ≤ 100000) : dSplit (.str s) [.str " "] = some (.list ((spl s).map .str)) := by
  show (if _ then _ else _) = _
  have a := PyProof.Rows.split_le s " "
  have b : sizeLine = 16777216 := sizeLine_eq
  rw [if_pos ⟨by decide +kernel, by omega, by omega⟩]
end
end VL
namespace VL
open PySem
section
variable {s : Str} {l : Int} {e : Env} {x : D}
theorem want_t {a b : Md D} {y : D} {e1 e2 : Env} (H : a e = .ok (.bool true) e1) (H2 : b e1 = .ok y e2) : oCallN 2 f_want [] (aaV a (aaV b aaN)) e = .ok (.d .none) e2 := c2 H H2 (rfl : f_want [.d (.bool true), .d y] = .ok (.d .none) [.unset, .unset])
abbrev iNu (w : D) : List (Str × D) := [("at", .int (-1)), ("word", w)]
theorem want_f {a b : Md D} {y : D} {e1 e2 : Env} (H : a e = .ok (.bool false) e1) (H2 : b e1 = .ok y e2) : oCallN 2 f_want [] (aaV a (aaV b aaN)) e = .err "NotUsable" (iNu y) e2 := c2e H H2 (rfl : f_want [.d (.bool false), .d y] = .err "NotUsable" (iNu y) [.unset, .unset])
theorem init_ok (h : s.length ≤ 100000) : f_Reader_init [.oi "Reader" [], .d (.str s), .d (.int l)] = .ok (.d .none) [rdr (spl s) l 0, .unset, .unset] := by
  refine callS_nx (e := [rdr (spl s) l 0, .d (.str s), .d (.int l)]) ?_
  refine (seq_nx (e1 := [.oi "Reader" [("held_words", .d (.list ((spl s).map .str)))], .d (.str s), .d (.int l)]) ?_).trans rfl
  exact (sB_ok (ms_ok rfl rfl rfl (dSplit_ok h))).trans rfl
theorem new_ok {a b : Md D} {e1 e2 : Env} (H : a e = .ok (.str s) e1) (H2 : b e1 = .ok (.int l) e2) (h : s.length ≤ 100000) : oNew 3 "Reader" f_Reader_init [] (aCons a (aCons b aNil)) e = .ok (rdr (spl s) l 0) e2 := by
  unfold oNew
  refine (bnd_ok (cons_ok H (cons_ok H2 aN_ok))).trans ?_
  show (match f_Reader_init [.oi "Reader" [], .d (.str s), .d (.int l)] with | .ok (.d .none) (.oi c' fs :: _) => Res.ok (SV.oi c' fs) e2 | .err c fs _ => .err c fs e2 | _ => .stuck) = _
  rw [init_ok h]
theorem callT_ok {f : Md SV} {F : Md SV} {sv r : SV} {svs : List SV} {e1 : Env} (H : F e = .ok sv e1) (ho : sv.own = true) (R : f [sv] = .ok r svs) : oCallT 1 f [] F e = .ok r e1 := by
  unfold oCallT
  refine (bnd_ok H).trans ?_
  rw [if_pos ⟨ho, rfl⟩]
  show (match f [sv] with | .ok r _ => Res.ok r e1 | .err c fs _ => .err c fs e1 | .stuck => .stuck) = _
  rw [R]
theorem callT_err {f : Md SV} {F : Md SV} {sv : SV} {c : Str} {fs : List (Str × D)} {svs : List SV} {e1 : Env} (H : F e = .ok sv e1) (ho : sv.own = true) (R : f [sv] = .err c fs svs) : oCallT 1 f [] F e = .err c fs e1 := by
  unfold oCallT
  refine (bnd_ok H).trans ?_
  rw [if_pos ⟨ho, rfl⟩]
  show (match f [sv] with | .ok r _ => Res.ok r e1 | .err c fs _ => .err c fs e1 | .stuck => .stuck) = _
  rw [R]
theorem spl_ok (h : POk s) : WOk (spl s) := fun w hw => by
  have a : w.length ≤ s.length := PyProof.Rows.part_short hw
  have b : sizeLine = 16777216 := sizeLine_eq
  refine ⟨?_, by have := h.2; omega⟩
  exact spl_str h.1 hw
theorem read_str (h : POk s) : f_read_event [.d (.str s)] = match pEvent (spl s) with
    | .ok d => .ok (.d d) [.unset]
    | .error k => .err "InvalidText" (iTx 0 k) [.unset] := by
  have w1 : sEx (oCallN 2 f_want [] (aaV (eOp1 (dIsi "str") (eV 0)) (aaV (eK (.str "text")) aaN))) [.d (.str s)] = .nx [.d (.str s)] := ex_ok (want_t (op1_ok rfl rfl) rfl)
  have n1 : oNew 3 "Reader" f_Reader_init [] (aCons (eV 0) (aCons (eK (.int 0)) aNil)) [.d (.str s)] = .ok (rdr (spl s) 0 0) [.d (.str s)] := new_ok rfl rfl h.2
  have hb := event_by_ok (l := 0) (spl_ok h)
  cases q : pEvent (spl s) with
  | ok d =>
    rw [q] at hb
    obtain ⟨k, hk⟩ := hb
    exact callS_rt (e := [.d (.str s)]) ((seq_nx w1).trans (rt_ok (callT_ok n1 rfl hk)))
  | error j =>
    rw [q] at hb
    obtain ⟨k, hk⟩ := hb
    exact callS_err (e := [.d (.str s)]) ((seq_nx w1).trans (rt_err (callT_err n1 rfl hk)))
theorem read_odd (h : isStr x = false) : f_read_event [.d x] = .err "NotUsable" (iNu (.str "text")) [.unset] := by
  refine callS_err (e := [.d x]) (seq_err (ex_err (want_f (op1_ok (x := x) rfl ?_) rfl)))
  cases x <;> first | rfl | cases h
end
end VL

set_option Elab.async false
set_option autoImplicit false
set_option linter.all false
set_option maxRecDepth 100000
set_option maxHeartbeats 4000000
/-! K72b: the plain law of k72: what the law reads. -/
namespace VL
open PySem
section
variable {w z : Str} {l : Int} {e : Env} {x : D}
abbrev s7 (a w : Str) (u : SV) : Env := [.d (.str a), .d (.str w), .unset, .unset, u, .unset, .unset]
theorem lc_not7 {a : Str} (hl : w.length ≤ sizeLine) :
    eLc (iOf itS (eV 1)) [4] (gN 4) (tCm dNotIn (eV 4) (eK (.str z))) (eV 4) (s7 a w .unset) = .ok (.list (((notIn z w).map fun c => (⟨#[c]⟩ : Str)).map PyData.str)) (s7 a w .unset) := by
  obtain ⟨e', h1, ⟨u, rfl⟩⟩ := lcR_run (vs := [4]) (g := gN 4) (t := tCm dNotIn (eV 4) (eK (.str z))) (f := eV 4) (fun e => ∃ u, e = s7 a w u) (fun x => asT (dNotIn x (.str z))) (fun x => x) (sgn w) (fun x hx e he => by
    obtain ⟨u, rfl⟩ := he
    obtain ⟨c, hc, rfl⟩ := List.mem_map.mp hx
    exact ⟨_, _, rfl, rfl, fun _ => ⟨_, rfl, _, rfl⟩, fun _ => ⟨_, rfl⟩⟩) (s7 a w .unset) ⟨_, rfl⟩
  refine (lc_ok (it_sgn rfl hl) rfl h1).trans ?_
  rw [List.map_id', notIn_D]
  rfl
/-- what the law says of a wish and a word -/
def standB (a w : Str) : Bool := if a = "number" then isNo w else if a = "name" then isNm w else if a = "careful" then memS caW w else memS stW w
theorem st_tst {a : Str} {v : SV} (b : Str) (ha : PyData.strOk a = true) (hb : PyData.strOk b = true) : tCm dEq (eV 0) (eK (.str b)) (s7 a w v) = .ok (a == b) (s7 a w v) := tcm_ok rfl rfl (dEq_str ha hb)
theorem len_t {lo : Int} {hi : Int} (hl : w.length ≤ sizeLine) {a : Str} (p q : Bool) (hp : decide (lo ≤ (w.length : Nat)) = p) (hq : decide ((w.length : Int) ≤ hi) = q) : eCh dLe dLe (eK (.int lo)) (eL dLen (aCons (eV 1) aNil)) (eK (.int hi)) (s7 a w .unset) = .ok (.bool (p && q)) (s7 a w .unset) := by
  subst hp hq
  exact ch_ok rfl (eL1 rfl (dLen_str hl)) rfl rfl rfl
theorem len_tt {lo : Int} {hi : Int} (hl : w.length ≤ sizeLine) {a : Str} (p q : Bool) (hp : decide (lo ≤ (w.length : Nat)) = p) (hq : decide ((w.length : Int) ≤ hi) = q) : tCh dLe dLe (eK (.int lo)) (eL dLen (aCons (eV 1) aNil)) (eK (.int hi)) (s7 a w .unset) = .ok (p && q) (s7 a w .unset) := by
  subst hp hq
  exact tch_ok rfl (eL1 rfl (dLen_str hl)) rfl rfl rfl
theorem stands_no (hl : w.length ≤ sizeLine) (ho : PyData.strOk w = true) : f_law_stands [.d (.str "number"), .d (.str w)] = .ok (.d (.bool (isNo w))) [.unset, .unset] := by
  have t0 : tCm dEq (eV 0) (eK (.str "number")) (s7 "number" w .unset) = .ok true (s7 "number" w .unset) := tcm_ok rfl rfl (dEq_t (by decide +kernel) (by decide +kernel) (by decide +kernel))
  have t1 : tNt (tCh dLe dLe (eK (.int 1)) (eL dLen (aCons (eV 1) aNil)) (eK (.int 60))) (s7 "number" w .unset) = .ok (!(decide (1 ≤ w.length) && decide (w.length ≤ 60))) (s7 "number" w .unset) :=
    tnt_ok (len_tt hl _ _ (by simp only [decide_eq_decide]; omega) (by simp only [decide_eq_decide]; omega))
  have t2 : tCm dNe (eLc (iOf itS (eV 1)) [4] (gN 4) (tCm dNotIn (eV 4) (eK (.str dig))) (eV 4)) (eL dLst aNil) (s7 "number" w .unset) = .ok (!allIn dig w) (s7 "number" w .unset) := tcm_ok (lc_not7 hl) rfl (lc_cong ho).2
  have t := tor_b t1 t2
  have e0 : (!(decide (1 ≤ w.length) && decide (w.length ≤ 60)) || !allIn dig w) = !isDg w := by unfold isDg; generalize (decide (1 ≤ w.length) && decide (w.length ≤ 60)) = a; cases a <;> rfl
  rw [e0] at t
  cases hd : isDg w with
  | false =>
    rw [hd] at t
    have e1 : isNo w = false := by unfold isNo; rw [hd]; rfl
    rw [e1]
    exact callS_rt (e := s7 "number" w .unset) (seq_rt ((if_t t0).trans (seq_rt (g := sIf _ _ _) ((if_t t).trans (rtD rfl)))))
  | true =>
    rw [hd] at t
    have h1 : 1 ≤ w.length := of_decide_eq_true (Bool.and_eq_true_iff.mp (Bool.and_eq_true_iff.mp hd).1).1
    have e1 : isNo w = (w == "0" || !((⟨#[w.cps.toList.headD 0]⟩ : Str) == "0")) := by unfold isNo; rw [hd]; rfl
    rw [e1]
    refine callS_rt (e := s7 "number" w .unset) (seq_rt ((if_t t0).trans ((seq_nx (g := sIf _ _ _) ((if_f t).trans rfl)).trans (rtD ?_))))
    exact eor_b (op2_ok (x := .str w) (y := .str "0") rfl rfl (dEq_str ho (by decide +kernel))) (op2_ok (y := .str "0") (ix0 (l := eV 1) (e := s7 "number" w .unset) rfl hl h1) rfl (dNe_str (sig_ok ho) (by decide +kernel)))
theorem stands_nm (hl : w.length ≤ sizeLine) (ho : PyData.strOk w = true) : f_law_stands [.d (.str "name"), .d (.str w)] = .ok (.d (.bool (isNm w))) [.unset, .unset] := by
  have t0 : tCm dEq (eV 0) (eK (.str "number")) (s7 "name" w .unset) = .ok false (s7 "name" w .unset) := tcm_ok rfl rfl (dEq_t (by decide +kernel) (by decide +kernel) (by decide +kernel))
  have t1 : tCm dEq (eV 0) (eK (.str "name")) (s7 "name" w .unset) = .ok true (s7 "name" w .unset) := tcm_ok rfl rfl (dEq_t (by decide +kernel) (by decide +kernel) (by decide +kernel))
  refine callS_rt (e := s7 "name" w .unset) ((seq_nx (g := sIf _ _ _) ((if_f t0).trans rfl)).trans (seq_rt (g := sIf _ _ _) ((if_t t1).trans (rtD ?_))))
  refine ean_b (len_t hl _ _ (?_ : _ = decide (1 ≤ w.length)) (?_ : _ = decide (w.length ≤ 8))) (op2_ok (y := .list []) (lc_not7 hl) rfl (lc_cong ho).1)
  · simp only [decide_eq_decide]; omega
  · simp only [decide_eq_decide]; omega
theorem stands_wd {a : Str} {zs : List Str} (ha : PyData.strOk a = true) (h1 : (a == "number") = false) (h2 : (a == "name") = false) (h3 : (a == "targets") = false) (ho : PyData.strOk w = true) (hz : SeqAt.shaped (.list (zs.map PyData.str)) = true)
    (hg : getS [("hold", PyData.list [.str "open", .str "marked"]), ("birth", .list [.str "copy", .str "start"]), ("end", .list [.str "r", .str "w"]), ("careful", .list [.str "on", .str "off"]), ("step", .list (stW.map .str))] a = some (.list (zs.map .str))) :
    f_law_stands [.d (.str a), .d (.str w)] = .ok (.d (.bool (memS zs w))) [.unset, .unset] := by
  have t1 := st_tst (w := w) (v := .unset) "number" ha (by decide +kernel)
  have t2 := st_tst (w := w) (v := .unset) "name" ha (by decide +kernel)
  have t3 := st_tst (w := w) (v := .unset) "targets" ha (by decide +kernel)
  rw [h1] at t1
  rw [h2] at t2
  rw [h3] at t3
  refine callS_rt (e := (s7 a w .unset).set 3 (.od [("hold", .list [.str "open", .str "marked"]), ("birth", .list [.str "copy", .str "start"]), ("end", .list [.str "r", .str "w"]), ("careful", .list [.str "on", .str "off"]), ("step", .list (stW.map .str))])) ?_
  refine (seq_nx (g := sIf _ _ _) ((if_f t1).trans rfl)).trans ?_
  refine (seq_nx (g := sIf _ _ _) ((if_f t2).trans rfl)).trans ?_
  refine (seq_nx (g := sIf _ _ _) ((if_f t3).trans rfl)).trans ?_
  refine (seq_nx (e1 := (s7 a w .unset).set 3 (.od [("hold", .list [.str "open", .str "marked"]), ("birth", .list [.str "copy", .str "start"]), ("end", .list [.str "r", .str "w"]), ("careful", .list [.str "on", .str "off"])])) rfl).trans ?_
  refine (seq_nx (e1 := (s7 a w .unset).set 3 (.od [("hold", .list [.str "open", .str "marked"]), ("birth", .list [.str "copy", .str "start"]), ("end", .list [.str "r", .str "w"]), ("careful", .list [.str "on", .str "off"]), ("step", .list (stW.map .str))])) rfl).trans (rtD ?_)
  exact op2_ok (x := .str w) (y := .list (zs.map .str)) rfl (dget_ok rfl rfl rfl hg) (dIn_lst ho hz)
end
end VL
namespace VL
open PySem
section
variable {w z : Str} {l : Int} {e : Env} {x : D} {ws : List Str}
/-- a wish and what it asks -/
inductive Wish : Str → (Str → Bool) → Prop
  | no : Wish "number" isNo
  | nm : Wish "name" isNm
  | ca : Wish "careful" (memS caW)
  | st : Wish "step" (memS stW)
theorem Wish.ok {a : Str} {t : Str → Bool} (h : Wish a t) (hl : w.length ≤ sizeLine) (ho : PyData.strOk w = true) : f_law_stands [.d (.str a), .d (.str w)] = .ok (.d (.bool (t w))) [.unset, .unset] := by
  cases h with
  | no => exact stands_no hl ho
  | nm => exact stands_nm hl ho
  | ca => exact stands_wd (by decide +kernel) (by decide +kernel) (by decide +kernel) (by decide +kernel) ho (shL (by decide +kernel)) rfl
  | st => exact stands_wd (by decide +kernel) (by decide +kernel) (by decide +kernel) (by decide +kernel) ho (shL (by decide +kernel)) rfl
abbrev Wishes (as : List (Str × (Str → Bool))) : Prop := ∀ p ∈ as, Wish p.1 p.2
def pLoop (ws : List Str) : List (Str × (Str → Bool)) → Nat → Option Int
  | [], _ => none
  | (_, t) :: r, k => match ws[k + 1]? with
    | none => some (ws.length : Nat)
    | some w => if t w = true then pLoop ws r (k + 1) else some ((k + 1 : Nat) : Int)
def pField (ws : List Str) (as : List (Str × (Str → Bool))) : Int := match pLoop ws as 0 with
  | some j => j
  | none => if as.length + 1 < ws.length then ((as.length + 1 : Nat) : Int) else -1
abbrev fBody : Sm := (sSeq (sIf (tCm dGe (eOp2 dAdd (eV 2) (eK (.int 1))) (eL dLen (aCons (eV 0) aNil))) (sRt (oD (eL dLen (aCons (eV 0) aNil)))) sNx) (sIf (tNt (tB (oToD (oCallN 2 f_law_stands [] (aaV (eOp2 dIx (eV 1) (eV 2)) (aaV (eOp2 dIx (eV 0) (eOp2 dAdd (eV 2) (eK (.int 1)))) aaN)))) truthS)) (sRt (oD (eOp2 dAdd (eV 2) (eK (.int 1))))) sNx))
theorem field_loop (hW : WOk ws) (as : List (Str × (Str → Bool))) (hA : Wishes as) : ∀ (r : List (Str × (Str → Bool))) (k : Nat), as.drop k = r → ∀ v, ∃ u,
    forR (gN 2) fBody ((List.range' k r.length).map fun i : Nat => PyData.int (i : Int)) [.d (.list (ws.map .str)), .d (.list (as.map fun (p : Str × (Str → Bool)) => PyData.str p.1)), v] =
      match pLoop ws r k with
      | some j => .rt (.d (.int j)) [.d (.list (ws.map .str)), .d (.list (as.map fun (p : Str × (Str → Bool)) => PyData.str p.1)), u]
      | none => .nx [.d (.list (ws.map .str)), .d (.list (as.map fun (p : Str × (Str → Bool)) => PyData.str p.1)), u]
  | [], k, hr, v => ⟨v, rfl⟩
  | (a, t) :: r, k, hr, v => by
    have ha : as[k]? = some (a, t) := by
      have z : (as.drop k)[0]? = some (a, t) := by rw [hr]; rfl
      rwa [List.getElem?_drop] at z
    have hr2 : as.drop (k + 1) = r := by
      rw [← List.drop_drop, hr] <;> rfl
    have l1 : ∀ v', eL dLen (aCons (eV 0) aNil) [.d (.list (ws.map .str)), .d (.list (as.map fun (p : Str × (Str → Bool)) => PyData.str p.1)), v'] = .ok (.int (ws.length : Nat)) [.d (.list (ws.map .str)), .d (.list (as.map fun (p : Str × (Str → Bool)) => PyData.str p.1)), v'] := fun v' => eL1 (x := .list (ws.map .str)) rfl (by show some (PyData.int _) = _; simp)
    have k1 : eOp2 dAdd (eV 2) (eK (.int 1)) [.d (.list (ws.map .str)), .d (.list (as.map fun (p : Str × (Str → Bool)) => PyData.str p.1)), .d (.int (k : Nat))] = .ok (.int ((k + 1 : Nat) : Int)) [.d (.list (ws.map .str)), .d (.list (as.map fun (p : Str × (Str → Bool)) => PyData.str p.1)), .d (.int (k : Nat))] := op2_ok (x := .int (k : Nat)) (y := .int 1) rfl rfl rfl
    have g0 : gN 2 (PyData.int (k : Nat)) [.d (.list (ws.map .str)), .d (.list (as.map fun (p : Str × (Str → Bool)) => PyData.str p.1)), v] = some [.d (.list (ws.map .str)), .d (.list (as.map fun (p : Str × (Str → Bool)) => PyData.str p.1)), .d (.int (k : Nat))] := rfl
    have t1 : tCm dGe (eOp2 dAdd (eV 2) (eK (.int 1))) (eL dLen (aCons (eV 0) aNil)) [.d (.list (ws.map .str)), .d (.list (as.map fun (p : Str × (Str → Bool)) => PyData.str p.1)), .d (.int (k : Nat))] = .ok (decide (ws.length ≤ k + 1)) [.d (.list (ws.map .str)), .d (.list (as.map fun (p : Str × (Str → Bool)) => PyData.str p.1)), .d (.int (k : Nat))] :=
      tcm_ok k1 (l1 _) (by show some (PyData.bool _) = _; congr 2; simp only [decide_eq_decide]; omega)
    unfold pLoop
    show ∃ u, forR (gN 2) fBody (PyData.int (k : Nat) :: (List.range' (k + 1) r.length).map fun i : Nat => PyData.int (i : Int)) _ = _
    cases h : ws[k + 1]? with
    | none =>
      have hle := List.getElem?_eq_none_iff.mp h
      rw [decide_eq_true hle] at t1
      exact ⟨_, for_rt g0 (seq_rt ((if_t t1).trans (rtD (l1 _))))⟩
    | some w =>
      have hlt := (List.getElem?_eq_some_iff.mp h).1
      rw [decide_eq_false (by omega)] at t1
      obtain ⟨ho, hl⟩ := hW.at h
      have q := (hA _ (List.mem_of_getElem? ha)).ok hl ho
      have t2 : tNt (tB (oToD (oCallN 2 f_law_stands [] (aaV (eOp2 dIx (eV 1) (eV 2)) (aaV (eOp2 dIx (eV 0) (eOp2 dAdd (eV 2) (eK (.int 1)))) aaN)))) truthS) [.d (.list (ws.map .str)), .d (.list (as.map fun (p : Str × (Str → Bool)) => PyData.str p.1)), .d (.int (k : Nat))] = .ok (!(t w)) [.d (.list (ws.map .str)), .d (.list (as.map fun (p : Str × (Str → Bool)) => PyData.str p.1)), .d (.int (k : Nat))] := by
        refine tnt_ok (tb (toD_ok (c2 (e1 := [.d (.list (ws.map .str)), .d (.list (as.map fun (p : Str × (Str → Bool)) => PyData.str p.1)), .d (.int (k : Nat))]) (x := .str a) (y := .str w) ?_ ?_ q)))
        · exact op2_ok (x := .list (as.map fun (p : Str × (Str → Bool)) => PyData.str p.1)) (y := .int (k : Nat)) rfl rfl (dIx_l (by rw [List.getElem?_map, ha]; rfl))
        · exact op2_ok (x := .list (ws.map .str)) rfl k1 (dIx_l (by rw [List.getElem?_map, h]; rfl))
      simp only
      cases ht : t w with
      | true =>
        rw [ht] at t2
        rw [if_pos rfl]
        obtain ⟨u, hu⟩ := field_loop hW as hA r (k + 1) hr2 (.d (.int (k : Nat)))
        exact ⟨u, (for_nx g0 ((seq_nx (g := sIf _ _ _) ((if_f t1).trans rfl)).trans ((if_f t2).trans rfl))).trans hu⟩
      | false =>
        rw [ht] at t2
        rw [if_neg Bool.false_ne_true]
        exact ⟨_, for_rt g0 ((seq_nx (g := sIf _ _ _) ((if_f t1).trans rfl)).trans ((if_t t2).trans (rtD k1)))⟩
theorem field_ok (hW : WOk ws) {as : List (Str × (Str → Bool))} (hA : Wishes as) (hn : as.length ≤ 1000) : f_law_field [.d (.list (ws.map .str)), .d (.list (as.map fun (p : Str × (Str → Bool)) => PyData.str p.1))] = .ok (.d (.int (pField ws as))) [.unset, .unset] := by
  have l0 : ∀ v', eL dLen (aCons (eV 0) aNil) [.d (.list (ws.map .str)), .d (.list (as.map fun (p : Str × (Str → Bool)) => PyData.str p.1)), v'] = .ok (.int (ws.length : Nat)) [.d (.list (ws.map .str)), .d (.list (as.map fun (p : Str × (Str → Bool)) => PyData.str p.1)), v'] := fun v' => eL1 (x := .list (ws.map .str)) rfl (by show some (PyData.int _) = _; simp)
  have l1 : ∀ v', eL dLen (aCons (eV 1) aNil) [.d (.list (ws.map .str)), .d (.list (as.map fun (p : Str × (Str → Bool)) => PyData.str p.1)), v'] = .ok (.int (as.length : Nat)) [.d (.list (ws.map .str)), .d (.list (as.map fun (p : Str × (Str → Bool)) => PyData.str p.1)), v'] := fun v' => eL1 (x := .list (as.map fun (p : Str × (Str → Bool)) => PyData.str p.1)) rfl (by show some (PyData.int _) = _; simp)
  obtain ⟨u, hu⟩ := field_loop hW as hA as 0 rfl .unset
  have f1 := (for_ok (g := gN 2) (G := fBody) (itR1_ok (l1 .unset) (by omega))).trans hu
  unfold pField
  cases hp : pLoop ws as 0 with
  | some j =>
    rw [hp] at f1
    exact callS_rt (e := [.d (.list (ws.map .str)), .d (.list (as.map fun (p : Str × (Str → Bool)) => PyData.str p.1)), u]) (seq_rt f1)
  | none =>
    rw [hp] at f1
    refine callS_rt (e := [.d (.list (ws.map .str)), .d (.list (as.map fun (p : Str × (Str → Bool)) => PyData.str p.1)), u]) ((seq_nx f1).trans (rtD ?_))
    have k1 : eOp2 dAdd (eL dLen (aCons (eV 1) aNil)) (eK (.int 1)) [.d (.list (ws.map .str)), .d (.list (as.map fun (p : Str × (Str → Bool)) => PyData.str p.1)), u] = .ok (.int ((as.length + 1 : Nat) : Int)) [.d (.list (ws.map .str)), .d (.list (as.map fun (p : Str × (Str → Bool)) => PyData.str p.1)), u] := op2_ok (y := .int 1) (l1 u) rfl rfl
    have t1 : tCm dGt (eL dLen (aCons (eV 0) aNil)) (eOp2 dAdd (eL dLen (aCons (eV 1) aNil)) (eK (.int 1))) [.d (.list (ws.map .str)), .d (.list (as.map fun (p : Str × (Str → Bool)) => PyData.str p.1)), u] = .ok (decide (as.length + 1 < ws.length)) [.d (.list (ws.map .str)), .d (.list (as.map fun (p : Str × (Str → Bool)) => PyData.str p.1)), u] :=
      tcm_ok (l0 u) k1 (by show some (PyData.bool _) = _; congr 2; simp only [decide_eq_decide]; omega)
    by_cases h : as.length + 1 < ws.length
    · rw [decide_eq_true h] at t1
      simp only [if_pos h]
      exact (eif_t t1).trans k1
    · rw [decide_eq_false h] at t1
      simp only [if_neg h]
      exact (eif_f t1).trans rfl
end
end VL
namespace VL
open PySem
section
variable {w z s : Str} {l : Int} {e : Env} {x : D} {ws : List Str} {t : Str → Bool} {k : Nat}
theorem tk' (ht : t "" = false) : tk ws k t = match ws[k]? with
    | some w => if t w = true then some w else none
    | none => none := by
  unfold tk
  cases ws[k]? with
  | none => rfl
  | some w =>
    by_cases hw : w = ""
    · subst hw
      simp only [ht, Bool.and_false]
    · simp only [beq_false_of_ne hw, Bool.not_false, Bool.true_and]
theorem no_e : isNo "" = false := by decide +kernel
theorem nm_e : isNm "" = false := by decide +kernel
theorem st_e : memS stW "" = false := by decide +kernel
theorem ca_e : memS caW "" = false := by decide +kernel
theorem ev_e : memS evW "" = false := by decide +kernel
def goAt (ws : List Str) : Bool := match ws[2]? with
  | some w => memS goW w
  | none => false
def asStep (ws : List Str) : List (Str × (Str → Bool)) := if goAt ws = true then [("number", isNo), ("step", memS stW), ("number", isNo)] else [("number", isNo), ("step", memS stW)]
def exV (r : Except Nat D) : Int := match r with
  | .ok _ => -1
  | .error k => (k : Nat)
theorem step_plain (h0 : 1 ≤ ws.length) : pField ws (asStep ws) = exV (pStep ws) := by
  have key : ∀ g : Bool, goAt ws = g → pField ws (if g = true then [("number", isNo), ("step", memS stW), ("number", isNo)] else [("number", isNo), ("step", memS stW)]) = exV (pStep ws) := by
    intro g hg
    unfold pStep
    rw [tk' no_e, tk' st_e, tk' no_e]
    unfold goAt at hg
    cases h1 : ws[1]? with
    | none =>
      have e : ws.length = 1 := by have := List.getElem?_eq_none_iff.mp h1; omega
      cases g <;> simp only [pField, pLoop, h1, exV, e, if_true, Bool.false_eq_true, if_false]
    | some a =>
      have g1 := (List.getElem?_eq_some_iff.mp h1).1
      cases ha : isNo a with
      | false => cases g <;> simp only [pField, pLoop, h1, ha, exV, if_true, Bool.false_eq_true, if_false]
      | true =>
        cases h2 : ws[2]? with
        | none =>
          have e : ws.length = 2 := by have := List.getElem?_eq_none_iff.mp h2; omega
          cases g <;> simp only [pField, pLoop, h1, ha, h2, if_true, exV, e, Bool.false_eq_true, if_false]
        | some w =>
          rw [h2] at hg
          have g2 := (List.getElem?_eq_some_iff.mp h2).1
          have hg : memS goW w = g := hg
          cases hw : memS stW w with
          | false => cases g <;> simp only [pField, pLoop, h1, ha, h2, hw, if_true, exV, Bool.false_eq_true, if_false]
          | true =>
            cases g with
            | false =>
              simp only [pField, pLoop, h1, ha, h2, hw, hg, if_true, fin, List.length_cons, List.length_nil, Bool.false_eq_true, if_false]
              by_cases hl : ws.length ≤ 3
              · rw [if_neg (by omega), if_pos hl]; rfl
              · rw [if_pos (by omega), if_neg hl]; rfl
            | true =>
              cases h3 : ws[3]? with
              | none =>
                have e : ws.length = 3 := by have := List.getElem?_eq_none_iff.mp h3; omega
                simp only [pField, pLoop, h1, ha, h2, hw, h3, hg, if_true, exV, e]
              | some b =>
                cases hb : isNo b with
                | false => simp only [pField, pLoop, h1, ha, h2, hw, h3, hb, hg, if_true, exV, Bool.false_eq_true, if_false]
                | true =>
                  simp only [pField, pLoop, h1, ha, h2, hw, h3, hb, hg, if_true, fin, List.length_cons, List.length_nil]
                  by_cases hl : ws.length ≤ 4
                  · rw [if_neg (by omega), if_pos hl]; rfl
                  · rw [if_pos (by omega), if_neg hl]; rfl
  exact key _ rfl
theorem word_plain {a : Str} {d : Str → D} (h0 : 1 ≤ ws.length) (ht : t "" = false) : pField ws [(a, t)] = exV (match tk ws 1 t with | none => .error 1 | some w => fin ws 2 (d w)) := by
  unfold pField
  rw [tk' ht]
  cases h1 : ws[1]? with
  | none =>
    have e : ws.length = 1 := by have := List.getElem?_eq_none_iff.mp h1; omega
    simp only [pLoop, h1, exV, e]
  | some w =>
    cases hw : t w with
    | false => simp only [pLoop, h1, hw, exV, Bool.false_eq_true, if_false]
    | true =>
      simp only [pLoop, h1, hw, if_true, fin, List.length_cons, List.length_nil]
      by_cases hl : ws.length ≤ 2
      · rw [if_neg (by omega), if_pos hl]; rfl
      · rw [if_pos (by omega), if_neg hl]; rfl
/-- what is read, or the number of the first word that cannot stand -/
def dueOf (r : Except Nat D) : D := match r with
  | .ok d => d
  | .error k => .int (k : Nat)
end
end VL
namespace VL
open PySem
section
variable {w z s : Str} {l : Int} {e : Env} {x : D} {ws : List Str} {t : Str → Bool} {k : Nat}
abbrev r4 (s : Str) (b c : SV) : Env := [.d (.str s), .d (.list ((spl s).map .str)), b, c]
theorem r_ix {s : Str} {b c : SV} {k : Nat} {w : Str} (h : (spl s)[k]? = some w) : eOp2 dIx (eV 1) (eK (.int (k : Nat))) (r4 s b c) = .ok (.str w) (r4 s b c) := op2_ok (x := .list ((spl s).map .str)) (y := .int (k : Nat)) rfl rfl (dIx_l (by rw [List.getElem?_map, h]; rfl))
theorem r_len {s : Str} {b c : SV} : eL dLen (aCons (eV 1) aNil) (r4 s b c) = .ok (.int ((spl s).length : Nat)) (r4 s b c) := eL1 (x := .list ((spl s).map .str)) rfl (by show some (PyData.int _) = _; simp)
abbrev wiS (as : List (Str × (Str → Bool))) : SV := .d (.list (as.map fun (p : Str × (Str → Bool)) => PyData.str p.1))
theorem memS_cases {zs : List Str} {w : Str} (h : memS zs w = true) : w ∈ zs := by
  obtain ⟨z, hz, e⟩ := List.any_eq_true.mp h
  rw [← eq_of_beq e]
  exact hz
theorem pStep_ok {d : D} (hW : WOk ws) (h : pStep ws = .ok d) : ∃ a w, ws[1]? = some a ∧ isNo a = true ∧ ws[2]? = some w ∧ memS stW w = true ∧
    ((memS goW w = true ∧ ws.length = 4 ∧ ∃ b, ws[3]? = some b ∧ isNo b = true ∧ d = .tuple [.int (noV a), .str w, .int (noV b)]) ∨ (memS goW w = false ∧ ws.length = 3 ∧ d = .tuple [.int (noV a), .str w, .int (-1)])) := by
  unfold pStep at h
  cases h1 : tk ws 1 isNo with
  | none => rw [h1] at h; cases h
  | some a =>
    rw [h1] at h
    simp only at h
    cases h2 : tk ws 2 (memS stW) with
    | none => rw [h2] at h; cases h
    | some w =>
      rw [h2] at h
      simp only at h
      obtain ⟨a1, _, _, a4⟩ := tk_some hW h1
      obtain ⟨b1, _, _, b4⟩ := tk_some hW h2
      have g2 := (List.getElem?_eq_some_iff.mp b1).1
      refine ⟨a, w, a1, a4, b1, b4, ?_⟩
      cases hg : memS goW w with
      | true =>
        rw [hg, if_pos rfl] at h
        cases h3 : tk ws 3 isNo with
        | none => rw [h3] at h; cases h
        | some b =>
          rw [h3] at h
          simp only [fin] at h
          obtain ⟨c1, _, _, c4⟩ := tk_some hW h3
          have g3 := (List.getElem?_eq_some_iff.mp c1).1
          split at h
          · cases h
            exact .inl ⟨rfl, by omega, b, c1, c4, rfl⟩
          · cases h
      | false =>
        rw [hg, if_neg Bool.false_ne_true] at h
        simp only [fin] at h
        split at h
        · cases h
          exact .inr ⟨rfl, by omega, rfl⟩
        · cases h
theorem exV_neg {r : Except Nat D} (h : exV r < 0) : ∃ d, r = .ok d := by
  cases r with
  | ok d => exact ⟨d, rfl⟩
  | error k => exact absurd h (by show ¬ ((k : Nat) : Int) < 0; omega)
theorem lread_ok (h : POk s) : f_law_read_event [.d (.str s)] = .ok (.d (dueOf (pEvent (spl s)))) [.unset] := by
  have hW := spl_ok h
  have hl1 : 1 ≤ (spl s).length := PyProof.Rows.split_pos _ _
  obtain ⟨w0, hw0⟩ : ∃ w0, (spl s)[0]? = some w0 := ⟨(spl s)[0], by rw [List.getElem?_eq_getElem (by omega)]⟩
  obtain ⟨ho, hl⟩ := hW.at hw0
  have i0 : ∀ b c, eOp2 dIx (eV 1) (eK (.int 0)) (r4 s b c) = .ok (.str w0) (r4 s b c) := fun b c => r_ix (k := 0) hw0
  have s1 : sSt (gN 1) (eMs dSplit (eV 0) (aCons (eK (.str " ")) aNil)) [.d (.str s), .unset, .unset, .unset] = .nx (r4 s .unset .unset) := st_n (ms_ok (x := .str s) rfl rfl rfl (dSplit_ok h.2))
  have t0 : ∀ b c, tCm dNotIn (eOp2 dIx (eV 1) (eK (.int 0))) (eL dTup (aCons (eK (.str "step")) (aCons (eK (.str "careful")) (aCons (eK (.str "mark")) aNil)))) (r4 s b c) = .ok (!memS evW w0) (r4 s b c) := fun b c => tcm_ok (y := .tuple (evW.map .str)) (i0 b c) rfl (dNotIn_tup ho evW_ok)
  have tkE : tk (spl s) 0 (memS evW) = if memS evW w0 = true then some w0 else none := by rw [tk' ev_e, hw0]
  unfold pEvent
  rw [tkE]
  cases hm : memS evW w0 with
  | false =>
    have t := t0 .unset .unset
    rw [hm] at t
    exact callS_rt (e := r4 s .unset .unset) ((seq_nx s1).trans (seq_rt ((if_t t).trans (rtD rfl))))
  | true =>
    have t := t0 .unset .unset
    rw [hm] at t
    have s2 : sIf (tCm dNotIn (eOp2 dIx (eV 1) (eK (.int 0))) (eL dTup (aCons (eK (.str "step")) (aCons (eK (.str "careful")) (aCons (eK (.str "mark")) aNil))))) (sRt (oD (eK (.int 0)))) sNx (r4 s .unset .unset) = .nx (r4 s .unset .unset) := (if_f t).trans rfl
    have tS : ∀ b c, tCm dEq (eOp2 dIx (eV 1) (eK (.int 0))) (eK (.str "step")) (r4 s b c) = .ok (w0 == "step") (r4 s b c) := fun b c => tcm_ok (i0 b c) rfl (dEq_str ho (by decide +kernel))
    have tN : ∀ b c, tCm dNe (eOp2 dIx (eV 1) (eK (.int 0))) (eK (.str "step")) (r4 s b c) = .ok (!(w0 == "step")) (r4 s b c) := fun b c => tcm_ok (i0 b c) rfl (dNe_str ho (by decide +kernel))
    -- the wants
    have s3 : ∀ as, getS [("step", PyData.list [.str "number", .str "step"]), ("careful", .list [.str "careful"]), ("mark", .list [.str "name"])] w0 = some (.list (as.map fun (p : Str × (Str → Bool)) => PyData.str p.1)) →
        sSt (gN 2) (eDspIx (kCons "step" (eL dLst (aCons (eK (.str "number")) (aCons (eK (.str "step")) aNil))) (kCons "careful" (eL dLst (aCons (eK (.str "careful")) aNil)) (kCons "mark" (eL dLst (aCons (eK (.str "name")) aNil)) kNil))) (eOp2 dIx (eV 1) (eK (.int 0)))) (r4 s .unset .unset) = .nx (r4 s (wiS as) .unset) := fun as hg => by
      refine st_n (j := 2) (e1 := r4 s .unset .unset) (x := .list (as.map fun (p : Str × (Str → Bool)) => PyData.str p.1)) ?_
      exact dspix_ok (kds := [("step", PyData.list [.str "number", .str "step"]), ("careful", .list [.str "careful"]), ("mark", .list [.str "name"])]) rfl (Nat.le_of_ble_eq_true rfl) (i0 _ _) hg
    have fl : ∀ as, Wishes as → as.length ≤ 1000 → sSt (gN 3) (oToD (oCallN 2 f_law_field [] (aaV (eV 1) (aaV (eV 2) aaN)))) (r4 s (wiS as) .unset) = .nx (r4 s (wiS as) (.d (.int (pField (spl s) as)))) := fun as hA hn => st_n (toD_ok (c2 rfl rfl (field_ok hW hA hn)))
    have t3 : ∀ b (j : Int), tCm dGe (eV 3) (eK (.int 0)) (r4 s b (.d (.int j))) = .ok (decide (0 ≤ j)) (r4 s b (.d (.int j))) := fun b j => tcm_ok rfl rfl rfl
    have tail : ∀ (as : List (Str × (Str → Bool))) (r : Except Nat D), pField (spl s) as = exV r →
        (∀ d, r = .ok d → sSeq (sIf (tCm dNe (eOp2 dIx (eV 1) (eK (.int 0))) (eK (.str "step"))) (sRt (oD (eL dTup (aCons (eOp2 dIx (eV 1) (eK (.int 0))) (aCons (eOp2 dIx (eV 1) (eK (.int 1))) aNil))))) sNx) (sRt (oD (eL dTup (aCons (eK (.str "step")) (aCons (eL dTup (aCons (eL dInt (aCons (eOp2 dIx (eV 1) (eK (.int 1))) aNil)) (aCons (eOp2 dIx (eV 1) (eK (.int 2))) (aCons (eIf (tCm dGt (eL dLen (aCons (eV 1) aNil)) (eK (.int 3))) (eL dInt (aCons (eOp2 dIx (eV 1) (eK (.int 3))) aNil)) (eOp1 dNeg (eK (.int 1)))) aNil)))) aNil))))) (r4 s (wiS as) (.d (.int (-1)))) = .rt (.d d) (r4 s (wiS as) (.d (.int (-1))))) →
        sSeq (sIf (tCm dGe (eV 3) (eK (.int 0))) (sRt (oD (eV 3))) sNx) (sSeq (sIf (tCm dNe (eOp2 dIx (eV 1) (eK (.int 0))) (eK (.str "step"))) (sRt (oD (eL dTup (aCons (eOp2 dIx (eV 1) (eK (.int 0))) (aCons (eOp2 dIx (eV 1) (eK (.int 1))) aNil))))) sNx) (sRt (oD (eL dTup (aCons (eK (.str "step")) (aCons (eL dTup (aCons (eL dInt (aCons (eOp2 dIx (eV 1) (eK (.int 1))) aNil)) (aCons (eOp2 dIx (eV 1) (eK (.int 2))) (aCons (eIf (tCm dGt (eL dLen (aCons (eV 1) aNil)) (eK (.int 3))) (eL dInt (aCons (eOp2 dIx (eV 1) (eK (.int 3))) aNil)) (eOp1 dNeg (eK (.int 1)))) aNil)))) aNil)))))) (r4 s (wiS as) (.d (.int (pField (spl s) as)))) = .rt (.d (dueOf r)) (r4 s (wiS as) (.d (.int (exV r)))) := fun as r hr hd => by
      rw [hr]
      cases r with
      | error k => exact seq_rt ((if_t ((t3 _ _).trans (by rw [decide_eq_true (by show (0 : Int) ≤ ((k : Nat) : Int); omega)]))).trans (rtD rfl))
      | ok d => exact (seq_nx (g := sIf _ _ _) ((if_f (t3 _ _)).trans rfl)).trans (hd d rfl)
    have hc := memS_cases hm
    simp only [if_true]
    by_cases hst : w0 = "step"
    · rw [if_pos hst]
      have wst : (w0 == "step") = true := by rw [hst]; decide +kernel
      have a3 := s3 [("number", isNo), ("step", memS stW)] (by rw [hst]; rfl)
      have g4 : tAn (tCm dEq (eOp2 dIx (eV 1) (eK (.int 0))) (eK (.str "step"))) (tAn (tCm dGt (eL dLen (aCons (eV 1) aNil)) (eK (.int 2))) (tCm dIn (eOp2 dIx (eV 1) (eK (.int 2))) (eL dTup (aCons (eK (.str "go")) (aCons (eK (.str "aside")) aNil))))) (r4 s (wiS [("number", isNo), ("step", memS stW)]) .unset) = .ok (goAt (spl s)) (r4 s (wiS [("number", isNo), ("step", memS stW)]) .unset) := by
        refine (tan_t ((tS _ _).trans (by rw [wst]))).trans ?_
        have tl : tCm dGt (eL dLen (aCons (eV 1) aNil)) (eK (.int 2)) (r4 s (wiS [("number", isNo), ("step", memS stW)]) .unset) = .ok (decide (2 < (spl s).length)) (r4 s (wiS [("number", isNo), ("step", memS stW)]) .unset) := tcm_ok r_len rfl (by show some (PyData.bool _) = _; congr 2; simp only [decide_eq_decide]; omega)
        unfold goAt
        cases h2 : (spl s)[2]? with
        | none =>
          have := List.getElem?_eq_none_iff.mp h2
          rw [decide_eq_false (by omega)] at tl
          exact tan_f tl
        | some w =>
          have := (List.getElem?_eq_some_iff.mp h2).1
          rw [decide_eq_true this] at tl
          exact (tan_t tl).trans (tcm_ok (y := .tuple (goW.map .str)) (r_ix (k := 2) h2) rfl (dIn_tup (hW.at h2).1 goW_ok))
      have a4 : sIf (tAn (tCm dEq (eOp2 dIx (eV 1) (eK (.int 0))) (eK (.str "step"))) (tAn (tCm dGt (eL dLen (aCons (eV 1) aNil)) (eK (.int 2))) (tCm dIn (eOp2 dIx (eV 1) (eK (.int 2))) (eL dTup (aCons (eK (.str "go")) (aCons (eK (.str "aside")) aNil)))))) (sSt (gN 2) (eOp2 dAdd (eV 2) (eL dLst (aCons (eK (.str "number")) aNil)))) sNx (r4 s (wiS [("number", isNo), ("step", memS stW)]) .unset) = .nx (r4 s (wiS (asStep (spl s))) .unset) := by
        refine (if_b g4).trans ?_
        unfold asStep
        cases goAt (spl s) <;> rfl
      have hA : Wishes (asStep (spl s)) := by
        unfold asStep
        intro p hp
        split at hp
        · simp only [List.mem_cons, List.not_mem_nil, or_false] at hp
          rcases hp with rfl | rfl | rfl
          · exact .no
          · exact .st
          · exact .no
        · simp only [List.mem_cons, List.not_mem_nil, or_false] at hp
          rcases hp with rfl | rfl
          · exact .no
          · exact .st
      have a5 := fl (asStep (spl s)) hA (by unfold asStep; split <;> decide)
      have hp := step_plain hl1
      have hr : exV (pStep (spl s)) = exV (match pStep (spl s) with | .ok d => .ok (.tuple [.str w0, d]) | .error k => .error k) := by cases pStep (spl s) <;> rfl
      refine callS_rt (e := r4 s (wiS (asStep (spl s))) (.d (.int (exV (match pStep (spl s) with | .ok d => .ok (.tuple [.str w0, d]) | .error k => .error k))))) ?_
      refine (seq_nx s1).trans ((seq_nx s2).trans ((seq_nx a3).trans ((seq_nx a4).trans ((seq_nx a5).trans ?_))))
      refine tail _ _ (hp.trans hr) fun d hd => ?_
      cases hq : pStep (spl s) with
      | error k => rw [hq] at hd; cases hd
      | ok d' =>
        rw [hq] at hd
        cases hd
        refine (seq_nx (g := sIf _ _ _) ((if_f ((tN _ _).trans (by rw [wst]; rfl))).trans rfl)).trans (rtD ?_)
        obtain ⟨a, w, e1, e2, e3, e4, hcase⟩ := pStep_ok hW hq
        rw [hst]
        have na : eL dInt (aCons (eOp2 dIx (eV 1) (eK (.int 1))) aNil) (r4 s (wiS (asStep (spl s))) (.d (.int (-1)))) = .ok (.int (noV a)) (r4 s (wiS (asStep (spl s))) (.d (.int (-1)))) := eL1 (r_ix (k := 1) e1) (int_no (Bool.and_eq_true_iff.mp e2).1)
        have tl : tCm dGt (eL dLen (aCons (eV 1) aNil)) (eK (.int 3)) (r4 s (wiS (asStep (spl s))) (.d (.int (-1)))) = .ok (decide (3 < (spl s).length)) (r4 s (wiS (asStep (spl s))) (.d (.int (-1)))) := tcm_ok r_len rfl (by show some (PyData.bool _) = _; congr 2; simp only [decide_eq_decide]; omega)
        rcases hcase with ⟨_, g2, b, b1, b2, rfl⟩ | ⟨_, g2, rfl⟩
        · rw [decide_eq_true (by omega)] at tl
          refine eL_ok (cons_ok rfl (cons_ok (eL_ok (cons_ok na (cons_ok (r_ix (k := 2) e3) (cons_ok ((eif_t tl).trans (eL1 (r_ix (k := 3) b1) (int_no (Bool.and_eq_true_iff.mp b2).1))) aN_ok))) rfl) aN_ok)) rfl
        · rw [decide_eq_false (by omega)] at tl
          refine eL_ok (cons_ok rfl (cons_ok (eL_ok (cons_ok na (cons_ok (r_ix (k := 2) e3) (cons_ok ((eif_f tl).trans rfl) aN_ok))) rfl) aN_ok)) rfl
    · rw [if_neg hst]
      have wst : (w0 == "step") = false := beq_false_of_ne hst
      have fin2 : ∀ (a : Str) (t : Str → Bool), Wish a t → t "" = false → getS [("step", PyData.list [.str "number", .str "step"]), ("careful", .list [.str "careful"]), ("mark", .list [.str "name"])] w0 = some (.list [.str a]) →
          f_law_read_event [.d (.str s)] = .ok (.d (dueOf (match tk (spl s) 1 t with | none => .error 1 | some w => fin (spl s) 2 (.tuple [.str w0, .str w])))) [.unset] := fun a t hA hte hg => by
        have a3 := s3 [(a, t)] hg
        have g4 : tAn (tCm dEq (eOp2 dIx (eV 1) (eK (.int 0))) (eK (.str "step"))) (tAn (tCm dGt (eL dLen (aCons (eV 1) aNil)) (eK (.int 2))) (tCm dIn (eOp2 dIx (eV 1) (eK (.int 2))) (eL dTup (aCons (eK (.str "go")) (aCons (eK (.str "aside")) aNil))))) (r4 s (wiS [(a, t)]) .unset) = .ok false (r4 s (wiS [(a, t)]) .unset) := tan_f ((tS _ _).trans (by rw [wst]))
        have a5 := fl [(a, t)] (fun p hp => by rw [List.mem_singleton.mp hp]; exact hA) (Nat.le_of_ble_eq_true rfl)
        have hp := word_plain (a := a) (d := fun w => .tuple [.str w0, .str w]) hl1 hte
        refine callS_rt (e := r4 s (wiS [(a, t)]) (.d (.int (exV (match tk (spl s) 1 t with | none => .error 1 | some w => fin (spl s) 2 (.tuple [.str w0, .str w])))))) ?_
        refine (seq_nx s1).trans ((seq_nx s2).trans ((seq_nx a3).trans ((seq_nx (g := sIf _ _ _) ((if_f g4).trans rfl)).trans ((seq_nx a5).trans ?_))))
        refine tail _ _ hp fun d hd => ?_
        refine seq_rt ((if_t ((tN _ _).trans (by rw [wst]; rfl))).trans (rtD ?_))
        cases hq : tk (spl s) 1 t with
        | none => rw [hq] at hd; cases hd
        | some w =>
          rw [hq] at hd
          simp only [fin] at hd
          split at hd
          · cases hd
            exact eL_ok (cons_ok (i0 _ _) (cons_ok (r_ix (k := 1) (tk_some hW hq).1) aN_ok)) rfl
          · cases hd
      rcases List.mem_cons.mp hc with h1 | h1
      · exact absurd h1 hst
      · rcases List.mem_cons.mp h1 with h1 | h1
        · subst h1
          rw [if_pos rfl]
          exact fin2 "careful" _ .ca ca_e rfl
        · have h1 := List.mem_singleton.mp h1
          subst h1
          rw [if_neg (by decide +kernel)]
          exact fin2 "name" _ .nm nm_e rfl
end
end VL

set_option Elab.async false
set_option autoImplicit false
set_option linter.all false
set_option maxRecDepth 100000
set_option maxHeartbeats 4000000
set_option exponentiation.threshold 3000
/-! K72c: the plain law of k72: events and their lines. -/
namespace VL
open PySem TL
theorem rev_ind {P : List Nat → Prop} (nil : P []) (append_singleton : ∀ l a, P l → P (l ++ [a])) (l : List Nat) : P l := by
  have key : ∀ r : List Nat, P r.reverse := fun r => by
    induction r with
    | nil => exact nil
    | cons a r ih => rw [List.reverse_cons]; exact append_singleton _ _ ih
  have := key l.reverse
  rwa [List.reverse_reverse] at this
/-! ### numbers as they are written -/
theorem digitsVal_lt : ∀ cs : List Nat, NumText.AllDigits cs → NumText.digitsVal cs < 10 ^ cs.length := fun cs => by
  induction cs using rev_ind with
  | nil => exact fun _ => by decide
  | append_singleton cs c ih =>
    intro h
    have h1 := ih fun d hd => h d (List.mem_append_left _ hd)
    have h2 := h c (List.mem_append_right _ (List.mem_singleton.mpr rfl))
    rw [NumText.digitsVal_snoc, List.length_append, List.length_singleton, Nat.pow_succ]
    omega
theorem digitsVal_pos {c : Nat} {cs : List Nat} (hc : 49 ≤ c) : 1 ≤ NumText.digitsVal (c :: cs) := by
  induction cs using rev_ind with
  | nil => show 1 ≤ 0 * 10 + (c - 48); omega
  | append_singleton cs d ih =>
    rw [show c :: (cs ++ [d]) = (c :: cs) ++ [d] from rfl, NumText.digitsVal_snoc]
    omega
theorem numL_back : ∀ cs : List Nat, NumText.AllDigits cs → cs ≠ [] → (cs = [48] ∨ cs.headD 0 ≠ 48) → numL (NumText.digitsVal cs) = cs := fun cs => by
  induction cs using rev_ind with
  | nil => exact fun _ h => absurd rfl h
  | append_singleton cs c ih =>
    intro h _ hh
    have hc := h c (List.mem_append_right _ (List.mem_singleton.mpr rfl))
    rw [NumText.digitsVal_snoc]
    cases cs with
    | nil =>
      show numL (0 * 10 + (c - 48)) = [c]
      rw [numL_lt (by omega)]
      congr 1
      omega
    | cons d ds =>
      have hd : (d :: ds).headD 0 ≠ 48 := by
        rcases hh with hh | hh
        · have := congrArg List.length hh; simp at this
        · exact hh
      have h1 := h d (List.mem_append_left _ (List.mem_cons_self ..))
      have hd : d ≠ 48 := hd
      have hp := digitsVal_pos (cs := ds) (show 49 ≤ d by omega)
      have ih := ih (fun e he => h e (List.mem_append_left _ he)) (List.cons_ne_nil _ _) (.inr hd)
      rw [numL_step (by omega)]
      have e1 : (NumText.digitsVal (d :: ds) * 10 + (c - 48)) / 10 = NumText.digitsVal (d :: ds) := by omega
      have e2 : (NumText.digitsVal (d :: ds) * 10 + (c - 48)) % 10 = c - 48 := by omega
      rw [e1, e2, ih]
      congr 2
      omega
theorem no_back {w : Str} (h : isNo w = true) : ∃ n : Nat, noV w = (n : Nat) ∧ n < 10 ^ 60 ∧ numL n = tl w := by
  obtain ⟨hd, h2⟩ := Bool.and_eq_true_iff.mp h
  obtain ⟨h3, h4⟩ := Bool.and_eq_true_iff.mp hd
  obtain ⟨h5, h6⟩ := Bool.and_eq_true_iff.mp h3
  have h5 := of_decide_eq_true h5
  have h6 := of_decide_eq_true h6
  have ha := allIn_dig h4
  have hl : (tl w).length = w.length := (len_tl w).symm
  have hne : tl w ≠ [] := fun z => by rw [z] at hl; simp at hl; omega
  refine ⟨NumText.digitsVal (tl w), rfl, Nat.lt_of_lt_of_le (digitsVal_lt _ ha) (Nat.pow_le_pow_right (by decide) (by omega)), numL_back _ ha hne ?_⟩
  cases hq : (w == "0") with
  | true =>
    have e := eq_of_beq hq
    subst e
    exact .inl (by decide +kernel)
  | false =>
    rw [hq, Bool.false_or] at h2
    refine .inr fun z => ?_
    have z : w.cps.toList.headD 0 = 48 := z
    rw [z] at h2
    exact absurd h2 (by decide +kernel)
theorem log_lt {n : Nat} (h : n < 10 ^ 60) : n.log2 < 1920 := by
  by_cases h0 : n = 0
  · subst h0; decide
  · refine (Nat.log2_lt h0).mpr (Nat.lt_trans h ?_)
    exact Nat.lt_of_lt_of_le (show 10 ^ 60 < 2 ^ 200 by decide +kernel) (Nat.pow_le_pow_right (by decide) (by decide))
theorem num_len {n : Nat} (h : n < 10 ^ 60) : (numL n).length ≤ 60 := numL_len (by decide) h
abbrev nS (n : Nat) : Str := Str.ofString (toString ((n : Nat) : Int))
theorem fmt_n {n : Nat} (h : n < 10 ^ 60) : dFmt (.int (n : Nat)) = some (.str (nS n)) := by
  show (if ((n : Nat) : Int).natAbs.log2 < 1920 then some (PyData.str (nS n)) else none) = _
  rw [if_pos (by simpa using log_lt h)]
theorem str_n {n : Nat} (h : n < 10 ^ 60) : dStr [.int (n : Nat)] = some (.str (nS n)) := by
  show (if ((n : Nat) : Int).natAbs.log2 < 1920 then some (PyData.str (nS n)) else none) = _
  rw [if_pos (by simpa using log_lt h)]
theorem tl_nS (n : Nat) : tl (nS n) = numL n := tl_num n
theorem fmt_s {w : Str} (h : w.length ≤ sizeLine) : dFmt (.str w) = some (.str w) := if_pos h
/-! ### events by form -/
abbrev stL : List Nat := [115, 116, 101, 112]
/-- an event by form, its line -/
inductive EvOk : D → Str → Prop
  | wd {kind w s : Str} : ((kind = "careful" ∧ memS caW w = true) ∨ (kind = "mark" ∧ isNm w = true)) → tl s = tl kind ++ 32 :: tl w → EvOk (.tuple [.str kind, .str w]) s
  | go {n m : Nat} {w s : Str} : memS goW w = true → n < 10 ^ 60 → m < 10 ^ 60 → tl s = stL ++ 32 :: (numL n ++ 32 :: (tl w ++ 32 :: numL m)) → EvOk (.tuple [.str "step", .tuple [.int (n : Nat), .str w, .int (m : Nat)]]) s
  | st {n : Nat} {w s : Str} : memS stW w = true → memS goW w = false → n < 10 ^ 60 → tl s = stL ++ 32 :: (numL n ++ 32 :: tl w) → EvOk (.tuple [.str "step", .tuple [.int (n : Nat), .str w, .int (-1)]]) s
theorem tl_join (a b : Str) (r : List Str) : tl (Str.join " " (a :: b :: r)) = tl a ++ 32 :: tl (Str.join " " (b :: r)) := by
  show tl (a ++ " " ++ Str.join " " (b :: r)) = _
  rw [tl_append, tl_append, List.append_assoc]
  rfl
theorem tl_spl {s : Str} {ws : List Str} (h : spl s = ws) : tl s = tl (Str.join " " ws) := by rw [← h, StrLaws.join_split]
theorem list4 {α : Type} {l : List α} (h : l.length = 4) {a b c d : α} (h0 : l[0]? = some a) (h1 : l[1]? = some b) (h2 : l[2]? = some c) (h3 : l[3]? = some d) : l = [a, b, c, d] := by
  match l, h with
  | [_, _, _, _], _ =>
    simp at h0 h1 h2 h3
    subst h0 h1 h2 h3
    rfl
theorem list3 {α : Type} {l : List α} (h : l.length = 3) {a b c : α} (h0 : l[0]? = some a) (h1 : l[1]? = some b) (h2 : l[2]? = some c) : l = [a, b, c] := by
  match l, h with
  | [_, _, _], _ =>
    simp at h0 h1 h2
    subst h0 h1 h2
    rfl
theorem list2 {α : Type} {l : List α} (h : l.length = 2) {a b : α} (h0 : l[0]? = some a) (h1 : l[1]? = some b) : l = [a, b] := by
  match l, h with
  | [_, _], _ =>
    simp at h0 h1
    subst h0 h1
    rfl
/-- what is read is an event by form, its line is what was read -/
theorem event_back {s : Str} {d : D} (h : POk s) (hp : pEvent (spl s) = .ok d) : EvOk d s := by
  have hW := spl_ok h
  unfold pEvent at hp
  cases h0 : tk (spl s) 0 (memS evW) with
  | none => rw [h0] at hp; cases hp
  | some kind =>
    rw [h0] at hp
    simp only at hp
    obtain ⟨k1, _, _, k4⟩ := tk_some hW h0
    by_cases hk : kind = "step"
    · rw [if_pos hk] at hp
      cases hq : pStep (spl s) with
      | error k => rw [hq] at hp; cases hp
      | ok d' =>
        rw [hq] at hp
        cases hp
        subst hk
        obtain ⟨a, w, e1, e2, e3, e4, hc⟩ := pStep_ok hW hq
        obtain ⟨n, n1, n2, n3⟩ := no_back e2
        rcases hc with ⟨g1, g2, b, b1, b2, rfl⟩ | ⟨g1, g2, rfl⟩
        · obtain ⟨m, m1, m2, m3⟩ := no_back b2
          rw [n1, m1]
          refine .go g1 n2 m2 ?_
          rw [tl_spl (list4 g2 k1 e1 e3 b1), tl_join, tl_join, tl_join, n3, m3]
          rfl
        · rw [n1]
          refine .st e4 g1 n2 ?_
          rw [tl_spl (list3 g2 k1 e1 e3), tl_join, tl_join, n3]
          rfl
    · rw [if_neg hk] at hp
      cases h1 : tk (spl s) 1 (if kind = "careful" then memS caW else isNm) with
      | none => rw [h1] at hp; cases hp
      | some w =>
        rw [h1] at hp
        simp only [fin] at hp
        obtain ⟨w1, _, _, w4⟩ := tk_some hW h1
        have g1 := (List.getElem?_eq_some_iff.mp w1).1
        split at hp
        · cases hp
          refine .wd ?_ ?_
          · rcases List.mem_cons.mp (memS_cases k4) with z | z
            · exact absurd z hk
            · rcases List.mem_cons.mp z with z | z
              · rw [if_pos z] at w4
                exact .inl ⟨z, w4⟩
              · have z := List.mem_singleton.mp z
                rw [if_neg (by rw [z]; decide +kernel)] at w4
                exact .inr ⟨z, w4⟩
          · rw [tl_spl (list2 (by omega) k1 w1), tl_join]
            rfl
        · cases hp
end VL

set_option Elab.async false
set_option autoImplicit false
set_option linter.all false
set_option maxRecDepth 100000
set_option maxHeartbeats 4000000
/-! K72d: the plain law of k72: lines written. -/
namespace VL
open PySem TL
section
variable {w : Str} {zs : List Str} {d : D} {s : Str}
theorem twofold_ok {a b : D} : f_is_twofold [.d (.tuple [a, b])] = .ok (.d (.bool true)) [.unset] := by
  refine callS_rt (e := [.d (.tuple [a, b])]) (rtD ?_)
  refine (ean_t (op1_ok rfl rfl)).trans ?_
  exact op2_ok (x := .int 2) (y := .int 2) (eL1 (x := .tuple [a, b]) rfl rfl) rfl dEq_int
theorem isamong_ok (ho : PyData.strOk w = true) (hz : SeqAt.shaped (.tuple (zs.map PyData.str)) = true) : f_is_among [.d (.str w), .d (.tuple (zs.map .str))] = .ok (.d (.bool (memS zs w))) [.unset, .unset] := by
  refine callS_rt (e := [.d (.str w), .d (.tuple (zs.map .str))]) (rtD ?_)
  refine (ean_t (op1_ok rfl rfl)).trans ?_
  exact op2_ok (x := .str w) (y := .tuple (zs.map .str)) rfl rfl (dIn_tup ho hz)
theorem isnum_ok {i : Int} : f_is_number [.d (.int i)] = .ok (.d (.bool (decide (0 ≤ i)))) [.unset] := rfl
theorem isint_ok {i : Int} : f_is_integer [.d (.int i)] = .ok (.d (.bool true)) [.unset] := rfl
abbrev wdW : List Str := ["go", "copy", "start", "mark", "close", "read", "write", "wait", "stay", "end"]
theorem wdW_ok : SeqAt.shaped (.tuple (wdW.map PyData.str)) = true := shT (by decide +kernel)
theorem mem_ok {zs : List Str} (hz : zs.all PyData.strOk = true) (h : memS zs w = true) : PyData.strOk w = true := List.all_eq_true.mp hz w (memS_cases h)
theorem st_sub (h : memS stW w = true) (hg : memS goW w = false) : memS wdW w = true ∧ (w == "stay") = false := by
  have z := memS_cases h
  simp only [List.mem_cons, List.not_mem_nil, or_false] at z
  rcases z with rfl | rfl | rfl | rfl | rfl | rfl | rfl | rfl | rfl | rfl <;> first | (exact absurd hg (by decide +kernel)) | (constructor <;> decide +kernel)
theorem st_short (h : memS stW w = true) : w.length ≤ 5 := by
  have z := memS_cases h
  simp only [List.mem_cons, List.not_mem_nil, or_false] at z
  rcases z with rfl | rfl | rfl | rfl | rfl | rfl | rfl | rfl | rfl | rfl <;> decide +kernel
theorem ca_short (h : memS caW w = true) : w.length ≤ 5 := by
  have z := memS_cases h
  simp only [List.mem_cons, List.not_mem_nil, or_false] at z
  rcases z with rfl | rfl <;> decide +kernel
theorem go_st (h : memS goW w = true) : memS stW w = true := by
  have z := memS_cases h
  simp only [List.mem_cons, List.not_mem_nil, or_false] at z
  rcases z with rfl | rfl <;> decide +kernel
theorem stW_all : stW.all PyData.strOk = true := by decide +kernel
theorem caW_all : caW.all PyData.strOk = true := by decide +kernel
theorem evW_all : evW.all PyData.strOk = true := by decide +kernel
theorem isstep_ok {n m : Int} (hn : 0 ≤ n) (h : (memS goW w = true ∧ 0 ≤ m) ∨ (memS stW w = true ∧ memS goW w = false ∧ m = -1)) : f_is_step [.d (.tuple [.int n, .str w, .int m])] = .ok (.d (.bool true)) [.unset] := by
  have ho : PyData.strOk w = true := by
    rcases h with h | h
    · exact mem_ok stW_all (go_st h.1)
    · exact mem_ok stW_all h.1
  have t1 : tOr (tNt (tB (eOp1 (dIsi "tuple") (eV 0)) truthS)) (tOr (tCm dNe (eL dLen (aCons (eV 0) aNil)) (eK (.int 3))) (tNt (tB (oToD (oCallN 1 f_is_number [] (aaV (eOp2 dIx (eV 0) (eK (.int 0))) aaN))) truthS))) [.d (.tuple [.int n, .str w, .int m]), .unset, .unset, .unset] = .ok false [.d (.tuple [.int n, .str w, .int m]), .unset, .unset, .unset] := by
    refine (tor_f (tnt_ok (p := true) (tb (op1_ok (f := dIsi "tuple") (x := .tuple [.int n, .str w, .int m]) (z := .bool true) rfl rfl)))).trans ?_
    refine (tor_f (tcm_ok (f := dNe) (x := .int 3) (y := .int 3) (p := false) (eL1 (f := dLen) (x := .tuple [.int n, .str w, .int m]) rfl rfl) rfl dNe_int)).trans ?_
    refine tnt_ok (p := true) (tb (toD_ok (c1 (x := .int n) ?_ (isnum_ok.trans (by rw [decide_eq_true hn])))))
    exact op2_ok (x := .tuple [.int n, .str w, .int m]) (y := .int 0) rfl rfl rfl
  have s1 : sIf (tOr (tNt (tB (eOp1 (dIsi "tuple") (eV 0)) truthS)) (tOr (tCm dNe (eL dLen (aCons (eV 0) aNil)) (eK (.int 3))) (tNt (tB (oToD (oCallN 1 f_is_number [] (aaV (eOp2 dIx (eV 0) (eK (.int 0))) aaN))) truthS)))) (sRt (oD (eK (.bool false)))) sNx [.d (.tuple [.int n, .str w, .int m]), .unset, .unset, .unset] = .nx [.d (.tuple [.int n, .str w, .int m]), .unset, .unset, .unset] := (if_f t1).trans rfl
  have s2 : sSt (gT 3 (gsC (gN 1) (gsC (gN 2) (gsC (gN 3) gsN)))) (eV 0) [.d (.tuple [.int n, .str w, .int m]), .unset, .unset, .unset] = .nx [.d (.tuple [.int n, .str w, .int m]), .d (.int n), .d (.str w), .d (.int m)] := st_ok (x := .tuple [.int n, .str w, .int m]) rfl rfl
  have t3 : tB (oToD (oCallN 2 f_is_among [] (aaV (eV 2) (aaV (eL dTup (aCons (eK (.str "go")) (aCons (eK (.str "aside")) aNil))) aaN)))) truthS [.d (.tuple [.int n, .str w, .int m]), .d (.int n), .d (.str w), .d (.int m)] = .ok (memS goW w) [.d (.tuple [.int n, .str w, .int m]), .d (.int n), .d (.str w), .d (.int m)] := tb (toD_ok (c2 (x := .str w) (y := .tuple (goW.map .str)) rfl rfl (isamong_ok ho goW_ok)))
  refine callS_rt (e := [.d (.tuple [.int n, .str w, .int m]), .d (.int n), .d (.str w), .d (.int m)]) ((seq_nx s1).trans ((seq_nx s2).trans ?_))
  rcases h with ⟨g1, g2⟩ | ⟨g1, g2, rfl⟩
  · rw [g1] at t3
    refine seq_rt ((if_t t3).trans (rt_ok ?_))
    exact c1 (x := .int m) rfl (isnum_ok.trans (by rw [decide_eq_true g2]))
  · rw [g2] at t3
    refine (seq_nx (g := sIf _ _ _) ((if_f t3).trans rfl)).trans (rtD ?_)
    obtain ⟨w1, w2⟩ := st_sub g1 g2
    refine (ean_t (toD_ok (c2 (x := .str w) (y := .tuple (wdW.map .str)) rfl rfl ((isamong_ok ho wdW_ok).trans (by rw [w1]))))).trans ?_
    refine (ean_t (op2_ok (x := .str w) (y := .str "stay") rfl rfl (dNe_t ho (by decide +kernel) (by rw [w2]; rfl)))).trans ?_
    refine (ean_t (toD_ok (c1 (x := .int (-1)) rfl isint_ok))).trans ?_
    exact op2_ok (x := .int (-1)) (y := .int (-1)) rfl rfl dEq_int
theorem words_ok {n : Nat} {m : D} (hn : n < 10 ^ 60) (hw : w.length ≤ 5) (h : (m = .int (-1) ∧ tl s = numL n ++ 32 :: tl w) ∨ (∃ k : Nat, m = .int (k : Nat) ∧ k < 10 ^ 60 ∧ tl s = numL n ++ 32 :: (tl w ++ 32 :: numL k))) :
    f_words_of_step [.d (.tuple [.int (n : Nat), .str w, m])] = .ok (.d (.str s)) [.unset] := by
  have hz : sizeLine = 16777216 := sizeLine_eq
  have l1 := num_len hn
  have l2 : (tl w).length ≤ 5 := by rw [← len_tl]; exact hw
  have lap : ∀ a b : Str, (a ++ b).length = (tl a).length + (tl b).length := fun a b => by rw [len_tl, tl_append, List.length_append]
  have s1 : sSt (gT 3 (gsC (gN 1) (gsC (gN 2) (gsC (gN 3) gsN)))) (eV 0) [.d (.tuple [.int (n : Nat), .str w, m]), .unset, .unset, .unset] = .nx [.d (.tuple [.int (n : Nat), .str w, m]), .d (.int (n : Nat)), .d (.str w), .d m] := st_ok (x := .tuple [.int (n : Nat), .str w, m]) rfl rfl
  have e0 : tl Str.empty = [] := rfl
  have e1 : tl (" " : Str) = [32] := by decide +kernel
  have sp : tl (Str.empty ++ nS n ++ " " ++ w) = numL n ++ 32 :: tl w := by
    rw [tl_append, tl_append, tl_append, tl_nS, e0, e1]; simp
  have f1 : eOp1 dFmt (eV 1) [.d (.tuple [.int (n : Nat), .str w, m]), .d (.int (n : Nat)), .d (.str w), .d m] = .ok (.str (nS n)) [.d (.tuple [.int (n : Nat), .str w, m]), .d (.int (n : Nat)), .d (.str w), .d m] := op1_ok (x := .int (n : Nat)) rfl (fmt_n hn)
  have f2 : eOp1 dFmt (eV 2) [.d (.tuple [.int (n : Nat), .str w, m]), .d (.int (n : Nat)), .d (.str w), .d m] = .ok (.str w) [.d (.tuple [.int (n : Nat), .str w, m]), .d (.int (n : Nat)), .d (.str w), .d m] := op1_ok (x := .str w) rfl (fmt_s (by omega))
  have a1 : (Str.empty ++ nS n).length ≤ sizeLine := by rw [lap, tl_nS, e0]; simp only [List.length_append, List.length_cons, List.length_nil]; omega
  have a2 : (Str.empty ++ nS n ++ " ").length ≤ sizeLine := by rw [lap, tl_append, tl_nS, e0, e1]; simp only [List.length_append, List.length_cons, List.length_nil]; omega
  have a3 : (Str.empty ++ nS n ++ " " ++ w).length ≤ sizeLine := by rw [len_tl, sp]; simp only [List.length_append, List.length_cons]; omega
  refine callS_rt (e := [.d (.tuple [.int (n : Nat), .str w, m]), .d (.int (n : Nat)), .d (.str w), .d m]) ((seq_nx s1).trans (rtD ?_))
  rcases h with ⟨rfl, hs⟩ | ⟨k, rfl, hk, hs⟩
  · refine (eif_t (tcm_ok (x := .int (-1)) (y := .int (-1)) rfl rfl dEq_int)).trans ?_
    refine (js_cons f1 a1).trans ((js_cons (y := " ") rfl a2).trans ((js_cons f2 a3).trans ?_))
    rw [js_nil, ext_tl (sp.trans hs.symm)]
  · refine (eif_f (tcm_ok (p := false) (x := .int (k : Nat)) (y := .int (-1)) rfl rfl (dEq_int.trans ?_))).trans ?_
    · rw [beq_false_of_ne (by omega)]
    have l3 := num_len hk
    have sq : tl (Str.empty ++ nS n ++ " " ++ w ++ " " ++ nS k) = numL n ++ 32 :: (tl w ++ 32 :: numL k) := by
      rw [tl_append, tl_append, sp, tl_nS, e1]; simp
    have a4 : (Str.empty ++ nS n ++ " " ++ w ++ " ").length ≤ sizeLine := by rw [lap, sp, e1]; simp only [List.length_append, List.length_cons, List.length_nil]; omega
    have a5 : (Str.empty ++ nS n ++ " " ++ w ++ " " ++ nS k).length ≤ sizeLine := by rw [len_tl, sq]; simp only [List.length_append, List.length_cons]; omega
    have f3 : eOp1 dFmt (eV 3) [.d (.tuple [.int (n : Nat), .str w, .int (k : Nat)]), .d (.int (n : Nat)), .d (.str w), .d (.int (k : Nat))] = .ok (.str (nS k)) [.d (.tuple [.int (n : Nat), .str w, .int (k : Nat)]), .d (.int (n : Nat)), .d (.str w), .d (.int (k : Nat))] := op1_ok (x := .int (k : Nat)) rfl (fmt_n hk)
    refine (js_cons f1 a1).trans ((js_cons (y := " ") rfl a2).trans ((js_cons f2 a3).trans ((js_cons (y := " ") rfl a4).trans ((js_cons f3 a5).trans ?_))))
    rw [js_nil, ext_tl (sq.trans hs.symm)]
end
end VL
namespace VL
open PySem TL
section
variable {w : Str} {zs : List Str} {d : D} {s : Str}
theorem nm_short (h : isNm w = true) : w.length ≤ 8 := of_decide_eq_true (Bool.and_eq_true_iff.mp (Bool.and_eq_true_iff.mp h).1).2
theorem isev_ok (h : EvOk d s) : f_is_event [.d d] = .ok (.d (.bool true)) [.unset] := by
  have hz : sizeLine = 16777216 := sizeLine_eq
  -- the first test and the unpacking
  have pre : ∀ (kind : Str) (b : D), memS evW kind = true → PyData.strOk kind = true →
      sIf (tOr (tNt (tB (oToD (oCallN 1 f_is_twofold [] (aaV (eV 0) aaN))) truthS)) (tNt (tB (oToD (oCallN 2 f_is_among [] (aaV (eOp2 dIx (eV 0) (eK (.int 0))) (aaV (eK (.tuple (evW.map .str))) aaN)))) truthS))) (sRt (oD (eK (.bool false)))) sNx [.d (.tuple [.str kind, b]), .unset, .unset] = .nx [.d (.tuple [.str kind, b]), .unset, .unset] := fun kind b hk ho => by
    have t : tOr (tNt (tB (oToD (oCallN 1 f_is_twofold [] (aaV (eV 0) aaN))) truthS)) (tNt (tB (oToD (oCallN 2 f_is_among [] (aaV (eOp2 dIx (eV 0) (eK (.int 0))) (aaV (eK (.tuple (evW.map .str))) aaN)))) truthS)) [.d (.tuple [.str kind, b]), .unset, .unset] = .ok false [.d (.tuple [.str kind, b]), .unset, .unset] := by
      refine (tor_f (tnt_ok (p := true) (tb (toD_ok (c1 (x := .tuple [.str kind, b]) rfl twofold_ok))))).trans ?_
      refine tnt_ok (p := true) (tb (toD_ok (c2 (x := .str kind) (y := .tuple (evW.map .str)) ?_ rfl ((isamong_ok ho evW_ok).trans (by rw [hk])))))
      exact op2_ok (x := .tuple [.str kind, b]) (y := .int 0) rfl rfl rfl
    exact (if_f t).trans rfl
  have un : ∀ (kind : Str) (b : D), sSt (gT 2 (gsC (gN 1) (gsC (gN 2) gsN))) (eV 0) [.d (.tuple [.str kind, b]), .unset, .unset] = .nx [.d (.tuple [.str kind, b]), .d (.str kind), .d b] := fun kind b => st_ok (x := .tuple [.str kind, b]) rfl rfl
  have stp : ∀ (w : Str) (n m : Int), 0 ≤ n → ((memS goW w = true ∧ 0 ≤ m) ∨ (memS stW w = true ∧ memS goW w = false ∧ m = -1)) → f_is_event [.d (.tuple [.str "step", .tuple [.int n, .str w, .int m]])] = .ok (.d (.bool true)) [.unset] := fun w n m hn h => by
    refine callS_rt (e := [.d (.tuple [.str "step", .tuple [.int n, .str w, .int m]]), .d (.str "step"), .d (.tuple [.int n, .str w, .int m])]) ((seq_nx (pre "step" _ (by decide +kernel) (by decide +kernel))).trans ((seq_nx (un _ _)).trans ?_))
    refine seq_rt ((if_t (tcm_ok (x := .str "step") (y := .str "step") rfl rfl (dEq_t (by decide +kernel) (by decide +kernel) (by decide +kernel)))).trans (rt_ok ?_))
    exact c1 (x := .tuple [.int n, .str w, .int m]) rfl (isstep_ok hn h)
  cases h with
  | @wd kind u _ hk hs =>
    have hq : memS evW kind = true ∧ PyData.strOk kind = true ∧ (kind == "step") = false := by
      rcases hk with ⟨rfl, _⟩ | ⟨rfl, _⟩ <;> decide +kernel
    refine callS_rt (e := [.d (.tuple [.str kind, .str u]), .d (.str kind), .d (.str u)]) ((seq_nx (pre kind _ hq.1 hq.2.1)).trans ((seq_nx (un _ _)).trans ?_))
    refine (seq_nx (g := sIf _ _ _) ((if_f (tcm_ok (x := .str kind) (y := .str "step") rfl rfl (dEq_t hq.2.1 (by decide +kernel) hq.2.2))).trans rfl)).trans (rtD ?_)
    rcases hk with ⟨rfl, hu⟩ | ⟨rfl, hu⟩
    · refine (eif_t (tcm_ok (x := .str "careful") (y := .str "careful") rfl rfl (dEq_t (by decide +kernel) (by decide +kernel) (by decide +kernel)))).trans ?_
      exact toD_ok (c2 (x := .str u) (y := .tuple (caW.map .str)) rfl rfl ((isamong_ok (mem_ok caW_all hu) caW_ok).trans (by rw [hu])))
    · refine (eif_f (tcm_ok (x := .str "mark") (y := .str "careful") rfl rfl (dEq_t (by decide +kernel) (by decide +kernel) (by decide +kernel)))).trans ?_
      exact toD_ok (c1 (x := .str u) rfl ((nm_ok (by have := nm_short hu; omega)).trans (by rw [hu])))
  | @go n m u _ h1 h2 h3 h4 =>
    exact stp _ _ _ (by omega) (.inl ⟨h1, by omega⟩)
  | @st n u _ h1 h2 h3 h4 =>
    exact stp _ _ _ (by omega) (.inr ⟨h1, h2, rfl⟩)
end
end VL
namespace VL
open PySem TL
section
variable {w : Str} {zs : List Str} {d : D} {s : Str}
theorem steptext_ok {n : Nat} {m : D} {z : Str} (hn : n < 10 ^ 60) (hg : (memS goW w = true ∧ ∃ k : Nat, m = .int (k : Nat) ∧ k < 10 ^ 60 ∧ tl z = numL n ++ 32 :: (tl w ++ 32 :: numL k)) ∨ (memS stW w = true ∧ memS goW w = false ∧ m = .int (-1) ∧ tl z = numL n ++ 32 :: tl w)) :
    f_step_text [.d (.tuple [.int (n : Nat), .str w, m])] = .ok (.d (.str z)) [.unset] := by
  have hw : w.length ≤ 5 := by
    rcases hg with h | h
    · exact st_short (go_st h.1)
    · exact st_short h.1
  have hi : f_is_step [.d (.tuple [.int (n : Nat), .str w, m])] = .ok (.d (.bool true)) [.unset] := by
    rcases hg with ⟨h1, k, rfl, h2, h3⟩ | ⟨h1, h2, rfl, h3⟩
    · exact isstep_ok (by omega) (.inl ⟨h1, by omega⟩)
    · exact isstep_ok (by omega) (.inr ⟨h1, h2, rfl⟩)
  refine callS_rt (e := [.d (.tuple [.int (n : Nat), .str w, m])]) ((seq_nx (ex_ok (want_t (toD_ok (c1 (x := .tuple [.int (n : Nat), .str w, m]) rfl hi)) rfl))).trans (rt_ok ?_))
  refine c1 (x := .tuple [.int (n : Nat), .str w, m]) rfl (words_ok hn hw ?_)
  · rcases hg with ⟨_, k, rfl, h2, h3⟩ | ⟨_, _, rfl, h3⟩
    · exact .inr ⟨k, rfl, h2, h3⟩
    · exact .inl ⟨rfl, h3⟩
theorem tl_sp : tl (" " : Str) = [32] := by decide +kernel
theorem tl_em : tl Str.empty = [] := rfl
theorem tl_st : tl ("step" : Str) = stL := by decide +kernel
theorem kind_short {kind : Str} {u : Str} (h : (kind = "careful" ∧ memS caW u = true) ∨ (kind = "mark" ∧ isNm u = true)) : (kind == "step") = false ∧ PyData.strOk kind = true ∧ (tl kind).length ≤ 7 ∧ (tl u).length ≤ 8 := by
  rcases h with ⟨rfl, h⟩ | ⟨rfl, h⟩
  · exact ⟨by decide +kernel, by decide +kernel, by decide +kernel, by have := ca_short h; rw [← len_tl]; omega⟩
  · exact ⟨by decide +kernel, by decide +kernel, by decide +kernel, by have := nm_short h; rw [← len_tl]; omega⟩
/-- a step's text behind "step " -/
theorem mk_tl (l : List Nat) : tl (⟨l.toArray⟩ : Str) = l := rfl
theorem lineof_ok (h : EvOk d s) : f_line_of [.d d] = .ok (.d (.str s)) [.unset] := by
  have hz : sizeLine = 16777216 := sizeLine_eq
  have un : ∀ (kind : Str) (b : D), sSt (gT 2 (gsC (gN 1) (gsC (gN 2) gsN))) (eV 0) [.d (.tuple [.str kind, b]), .unset, .unset] = .nx [.d (.tuple [.str kind, b]), .d (.str kind), .d b] := fun kind b => st_ok (x := .tuple [.str kind, b]) rfl rfl
  have stp : ∀ (p : D) (z : Str), f_step_text [.d p] = .ok (.d (.str z)) [.unset] → (tl z).length ≤ 200 → tl s = stL ++ 32 :: tl z → f_line_of [.d (.tuple [.str "step", p])] = .ok (.d (.str s)) [.unset] := fun p z hp hl hs => by
    refine callS_rt (e := [.d (.tuple [.str "step", p]), .d (.str "step"), .d p]) ((seq_nx (un _ _)).trans (rtD ?_))
    refine (eif_t (tcm_ok (x := .str "step") (y := .str "step") rfl rfl (dEq_t (by decide +kernel) (by decide +kernel) (by decide +kernel)))).trans ?_
    have f1 : eOp1 dFmt (eV 1) [.d (.tuple [.str "step", p]), .d (.str "step"), .d p] = .ok (.str "step") [.d (.tuple [.str "step", p]), .d (.str "step"), .d p] := op1_ok (x := .str "step") rfl (fmt_s (by decide +kernel))
    have f2 : eOp1 dFmt (oToD (oCallN 1 f_step_text [] (aaV (eV 2) aaN))) [.d (.tuple [.str "step", p]), .d (.str "step"), .d p] = .ok (.str z) [.d (.tuple [.str "step", p]), .d (.str "step"), .d p] := op1_ok (toD_ok (c1 (x := p) rfl hp)) (fmt_s (by rw [len_tl]; omega))
    have sq : tl (Str.empty ++ "step" ++ " " ++ z) = stL ++ 32 :: tl z := by rw [tl_append, tl_append, tl_append, tl_em, tl_st, tl_sp]; simp
    refine (js_cons f1 (by decide +kernel)).trans ((js_cons (y := " ") rfl (by decide +kernel)).trans ((js_cons f2 ?_).trans ?_))
    · rw [len_tl, sq]; simp only [List.length_append, List.length_cons, List.length_nil]; omega
    · rw [js_nil, ext_tl (sq.trans hs.symm)]
  cases h with
  | @wd kind u _ hk hs =>
    obtain ⟨q1, q2, q3, q4⟩ := kind_short hk
    refine callS_rt (e := [.d (.tuple [.str kind, .str u]), .d (.str kind), .d (.str u)]) ((seq_nx (un _ _)).trans (rtD ?_))
    refine (eif_f (tcm_ok (x := .str kind) (y := .str "step") rfl rfl (dEq_t q2 (by decide +kernel) q1))).trans ?_
    have f1 : eOp1 dFmt (eV 1) [.d (.tuple [.str kind, .str u]), .d (.str kind), .d (.str u)] = .ok (.str kind) [.d (.tuple [.str kind, .str u]), .d (.str kind), .d (.str u)] := op1_ok (x := .str kind) rfl (fmt_s (by rw [len_tl]; omega))
    have f2 : eOp1 dFmt (eV 2) [.d (.tuple [.str kind, .str u]), .d (.str kind), .d (.str u)] = .ok (.str u) [.d (.tuple [.str kind, .str u]), .d (.str kind), .d (.str u)] := op1_ok (x := .str u) rfl (fmt_s (by rw [len_tl]; omega))
    have sq : tl (Str.empty ++ kind ++ " " ++ u) = tl kind ++ 32 :: tl u := by rw [tl_append, tl_append, tl_append, tl_em, tl_sp]; simp
    refine (js_cons f1 ?_).trans ((js_cons (y := " ") rfl ?_).trans ((js_cons f2 ?_).trans ?_))
    · rw [len_tl, tl_append, tl_em]; simp only [List.length_append, List.length_nil]; omega
    · rw [len_tl, tl_append, tl_append, tl_em, tl_sp]; simp only [List.length_append, List.length_cons, List.length_nil]; omega
    · rw [len_tl, sq]; simp only [List.length_append, List.length_cons, List.length_nil]; omega
    · rw [js_nil, ext_tl (sq.trans hs.symm)]
  | @go n m u _ h1 h2 h3 h4 =>
    have l1 := num_len h2
    have l2 := num_len h3
    have l3 := st_short (go_st h1)
    rw [len_tl] at l3
    refine stp _ ⟨(numL n ++ 32 :: (tl u ++ 32 :: numL m)).toArray⟩ (steptext_ok h2 (.inl ⟨h1, m, rfl, h3, mk_tl _⟩)) ?_ h4
    rw [mk_tl]; simp only [List.length_append, List.length_cons]; omega
  | @st n u _ h1 h2 h3 h4 =>
    have l1 := num_len h3
    have l3 := st_short h1
    rw [len_tl] at l3
    refine stp _ ⟨(numL n ++ 32 :: tl u).toArray⟩ (steptext_ok h3 (.inr ⟨h1, h2, rfl, mk_tl _⟩)) ?_ h4
    rw [mk_tl]; simp only [List.length_append, List.length_cons]; omega
theorem evline_ok (h : EvOk d s) : f_event_line [.d d] = .ok (.d (.str s)) [.unset] :=
  callS_rt (e := [.d d]) ((seq_nx (ex_ok (want_t (toD_ok (c1 (x := d) rfl (isev_ok h))) rfl))).trans (rt_ok (c1 (x := d) rfl (lineof_ok h))))
theorem lline_ok (h : EvOk d s) : f_law_event_line [.d d] = .ok (.d (.str s)) [.unset] := by
  have hz : sizeLine = 16777216 := sizeLine_eq
  have cat : ∀ {a b : Str}, (tl a).length + (tl b).length ≤ 1000 → dAdd (.str a) (.str b) = some (.str (a ++ b)) := fun {a b} hl => by
    show (if a.length + b.length ≤ sizeLine then some (PyData.str (a ++ b)) else none) = _
    rw [if_pos (by rw [len_tl, len_tl]; omega)]
  cases h with
  | @wd kind u _ hk hs =>
    obtain ⟨q1, q2, q3, q4⟩ := kind_short hk
    have i0 : eOp2 dIx (eV 0) (eK (.int 0)) [.d (.tuple [.str kind, .str u]), .unset] = .ok (.str kind) [.d (.tuple [.str kind, .str u]), .unset] := op2_ok (x := .tuple [.str kind, .str u]) (y := .int 0) rfl rfl rfl
    have i1 : eOp2 dIx (eV 0) (eK (.int 1)) [.d (.tuple [.str kind, .str u]), .unset] = .ok (.str u) [.d (.tuple [.str kind, .str u]), .unset] := op2_ok (x := .tuple [.str kind, .str u]) (y := .int 1) rfl rfl rfl
    have t : tCm dNe (eOp2 dIx (eV 0) (eK (.int 0))) (eK (.str "step")) [.d (.tuple [.str kind, .str u]), .unset] = .ok true [.d (.tuple [.str kind, .str u]), .unset] := tcm_ok (y := .str "step") i0 rfl (dNe_t q2 (by decide +kernel) (by rw [q1]; rfl))
    have sq : tl (kind ++ " " ++ u) = tl kind ++ 32 :: tl u := by rw [tl_append, tl_append, tl_sp]; simp
    rw [show s = kind ++ " " ++ u from ext_tl (hs.trans sq.symm)]
    refine callS_rt (e := [.d (.tuple [.str kind, .str u]), .unset]) (seq_rt ((if_t t).trans (rtD ?_)))
    exact op2_ok (op2_ok (y := .str " ") i0 rfl (cat (by rw [tl_sp]; simp only [List.length_cons, List.length_nil]; omega))) i1 (cat (by rw [tl_append, tl_sp]; simp only [List.length_append, List.length_cons, List.length_nil]; omega))
  | @go n m u _ h1 h2 h3 h4 =>
    have l1 := num_len h2
    have l2 := num_len h3
    have l3 := st_short (go_st h1)
    rw [len_tl] at l3
    have ho := mem_ok stW_all (go_st h1)
    generalize hd : PyData.tuple [.str "step", .tuple [.int (n : Nat), .str u, .int (m : Nat)]] = d
    have j0 : ∀ v, eOp2 dIx (eV 0) (eK (.int 0)) [.d d, v] = .ok (.str "step") [.d d, v] := fun v => by subst hd; exact op2_ok (x := .tuple [.str "step", .tuple [.int (n : Nat), .str u, .int (m : Nat)]]) (y := .int 0) rfl rfl rfl
    have j1 : ∀ v, eOp2 dIx (eV 0) (eK (.int 1)) [.d d, v] = .ok (.tuple [.int (n : Nat), .str u, .int (m : Nat)]) [.d d, v] := fun v => by subst hd; exact op2_ok (x := .tuple [.str "step", .tuple [.int (n : Nat), .str u, .int (m : Nat)]]) (y := .int 1) rfl rfl rfl
    have k0 : ∀ v, eOp2 dIx (eOp2 dIx (eV 0) (eK (.int 1))) (eK (.int 0)) [.d d, v] = .ok (.int (n : Nat)) [.d d, v] := fun v => op2_ok (y := .int 0) (j1 v) rfl rfl
    have k1 : ∀ v, eOp2 dIx (eOp2 dIx (eV 0) (eK (.int 1))) (eK (.int 1)) [.d d, v] = .ok (.str u) [.d d, v] := fun v => op2_ok (y := .int 1) (j1 v) rfl rfl
    have k2 : ∀ v, eOp2 dIx (eOp2 dIx (eV 0) (eK (.int 1))) (eK (.int 2)) [.d d, v] = .ok (.int (m : Nat)) [.d d, v] := fun v => op2_ok (y := .int 2) (j1 v) rfl rfl
    have t : tCm dNe (eOp2 dIx (eV 0) (eK (.int 0))) (eK (.str "step")) [.d d, .unset] = .ok false [.d d, .unset] := tcm_ok (y := .str "step") (j0 _) rfl (dNe_t (by decide +kernel) (by decide +kernel) (by decide +kernel))
    have e5 : tl ("step " : Str) = stL ++ [32] := by decide +kernel
    have s1 : sSt (gN 1) (eOp2 dAdd (eOp2 dAdd (eOp2 dAdd (eK (.str "step ")) (eL dStr (aCons (eOp2 dIx (eOp2 dIx (eV 0) (eK (.int 1))) (eK (.int 0))) aNil))) (eK (.str " "))) (eOp2 dIx (eOp2 dIx (eV 0) (eK (.int 1))) (eK (.int 1)))) [.d d, .unset] = .nx [.d d, .d (.str ("step " ++ nS n ++ " " ++ u))] := by
      refine st_n (j := 1) (e1 := [.d d, .unset]) ?_
      refine op2_ok (op2_ok (y := .str " ") (op2_ok (x := .str "step ") rfl (eL1 (k0 _) (str_n h2)) (cat ?_)) rfl (cat ?_)) (k1 _) (cat ?_)
      · rw [e5, tl_nS]; simp only [List.length_append, List.length_cons, List.length_nil]; omega
      · rw [tl_append, e5, tl_nS, tl_sp]; simp only [List.length_append, List.length_cons, List.length_nil]; omega
      · rw [tl_append, tl_append, e5, tl_nS, tl_sp]; simp only [List.length_append, List.length_cons, List.length_nil]; omega
    have t2 : tCm dIn (eOp2 dIx (eOp2 dIx (eV 0) (eK (.int 1))) (eK (.int 1))) (eL dTup (aCons (eK (.str "go")) (aCons (eK (.str "aside")) aNil))) [.d d, .d (.str ("step " ++ nS n ++ " " ++ u))] = .ok true [.d d, .d (.str ("step " ++ nS n ++ " " ++ u))] := tcm_ok (y := .tuple (goW.map .str)) (k1 _) rfl ((dIn_tup ho goW_ok).trans (by rw [h1]))
    have sq : tl ("step " ++ nS n ++ " " ++ u ++ (" " ++ nS m)) = stL ++ 32 :: (numL n ++ 32 :: (tl u ++ 32 :: numL m)) := by rw [tl_append, tl_append, tl_append, tl_append, tl_append, e5, tl_nS, tl_nS, tl_sp]; simp
    rw [show s = "step " ++ nS n ++ " " ++ u ++ (" " ++ nS m) from ext_tl (h4.trans sq.symm)]
    refine callS_rt (e := [.d d, .d (.str ("step " ++ nS n ++ " " ++ u))]) ((seq_nx (g := sIf _ _ _) ((if_f t).trans rfl)).trans ((seq_nx s1).trans (rtD ?_)))
    refine op2_ok (x := .str ("step " ++ nS n ++ " " ++ u)) rfl ((eif_t t2).trans (op2_ok (x := .str " ") rfl (eL1 (k2 _) (str_n h3)) (cat ?_))) (cat ?_)
    · rw [tl_nS, tl_sp]; simp only [List.length_append, List.length_cons, List.length_nil]; omega
    · rw [tl_append, tl_append, tl_append, tl_append, e5, tl_nS, tl_nS, tl_sp]; simp only [List.length_append, List.length_cons, List.length_nil]; omega
  | @st n u _ h1 h2 h3 h4 =>
    have l1 := num_len h3
    have l3 := st_short h1
    rw [len_tl] at l3
    have ho := mem_ok stW_all h1
    generalize hd : PyData.tuple [.str "step", .tuple [.int (n : Nat), .str u, .int (-1)]] = d
    have j0 : ∀ v, eOp2 dIx (eV 0) (eK (.int 0)) [.d d, v] = .ok (.str "step") [.d d, v] := fun v => by subst hd; exact op2_ok (x := .tuple [.str "step", .tuple [.int (n : Nat), .str u, .int (-1)]]) (y := .int 0) rfl rfl rfl
    have j1 : ∀ v, eOp2 dIx (eV 0) (eK (.int 1)) [.d d, v] = .ok (.tuple [.int (n : Nat), .str u, .int (-1)]) [.d d, v] := fun v => by subst hd; exact op2_ok (x := .tuple [.str "step", .tuple [.int (n : Nat), .str u, .int (-1)]]) (y := .int 1) rfl rfl rfl
    have k0 : ∀ v, eOp2 dIx (eOp2 dIx (eV 0) (eK (.int 1))) (eK (.int 0)) [.d d, v] = .ok (.int (n : Nat)) [.d d, v] := fun v => op2_ok (y := .int 0) (j1 v) rfl rfl
    have k1 : ∀ v, eOp2 dIx (eOp2 dIx (eV 0) (eK (.int 1))) (eK (.int 1)) [.d d, v] = .ok (.str u) [.d d, v] := fun v => op2_ok (y := .int 1) (j1 v) rfl rfl
    have t : tCm dNe (eOp2 dIx (eV 0) (eK (.int 0))) (eK (.str "step")) [.d d, .unset] = .ok false [.d d, .unset] := tcm_ok (y := .str "step") (j0 _) rfl (dNe_t (by decide +kernel) (by decide +kernel) (by decide +kernel))
    have e5 : tl ("step " : Str) = stL ++ [32] := by decide +kernel
    have s1 : sSt (gN 1) (eOp2 dAdd (eOp2 dAdd (eOp2 dAdd (eK (.str "step ")) (eL dStr (aCons (eOp2 dIx (eOp2 dIx (eV 0) (eK (.int 1))) (eK (.int 0))) aNil))) (eK (.str " "))) (eOp2 dIx (eOp2 dIx (eV 0) (eK (.int 1))) (eK (.int 1)))) [.d d, .unset] = .nx [.d d, .d (.str ("step " ++ nS n ++ " " ++ u))] := by
      refine st_n (j := 1) (e1 := [.d d, .unset]) ?_
      refine op2_ok (op2_ok (y := .str " ") (op2_ok (x := .str "step ") rfl (eL1 (k0 _) (str_n h3)) (cat ?_)) rfl (cat ?_)) (k1 _) (cat ?_)
      · rw [e5, tl_nS]; simp only [List.length_append, List.length_cons, List.length_nil]; omega
      · rw [tl_append, e5, tl_nS, tl_sp]; simp only [List.length_append, List.length_cons, List.length_nil]; omega
      · rw [tl_append, tl_append, e5, tl_nS, tl_sp]; simp only [List.length_append, List.length_cons, List.length_nil]; omega
    have t2 : tCm dIn (eOp2 dIx (eOp2 dIx (eV 0) (eK (.int 1))) (eK (.int 1))) (eL dTup (aCons (eK (.str "go")) (aCons (eK (.str "aside")) aNil))) [.d d, .d (.str ("step " ++ nS n ++ " " ++ u))] = .ok false [.d d, .d (.str ("step " ++ nS n ++ " " ++ u))] := tcm_ok (y := .tuple (goW.map .str)) (k1 _) rfl ((dIn_tup ho goW_ok).trans (by rw [h2]))
    have sq : tl ("step " ++ nS n ++ " " ++ u ++ "") = stL ++ 32 :: (numL n ++ 32 :: tl u) := by rw [tl_append, tl_append, tl_append, tl_append, e5, tl_nS, tl_sp, show tl ("" : Str) = [] from rfl]; simp
    rw [show s = "step " ++ nS n ++ " " ++ u ++ "" from ext_tl (h4.trans sq.symm)]
    refine callS_rt (e := [.d d, .d (.str ("step " ++ nS n ++ " " ++ u))]) ((seq_nx (g := sIf _ _ _) ((if_f t).trans rfl)).trans ((seq_nx s1).trans (rtD ?_)))
    refine op2_ok (x := .str ("step " ++ nS n ++ " " ++ u)) rfl ((eif_f t2).trans rfl) (cat ?_)
    rw [tl_append, tl_append, tl_append, e5, tl_nS, tl_sp, show tl ("" : Str) = [] from rfl]; simp only [List.length_append, List.length_cons, List.length_nil]; omega
end
end VL

set_option Elab.async false
set_option autoImplicit false
set_option linter.all false
set_option maxRecDepth 100000
set_option maxHeartbeats 4000000
set_option exponentiation.threshold 3000
/-! K72e: the plain law of k72: a piece is read as it has to be. -/
namespace VL
open PySem TL
section
variable {w : Str} {d : D} {s : Str} {e e1 : Env}
theorem Rep.nat {n k : Nat} (h : n < 10 ^ 60) : Rep (.int (n : Nat)) 60 k := by
  refine ⟨?_, by simp only [PyData.hasDict], by simp only [PyData.depth]; omega, ?_⟩
  · simp only [PyData.showable]
    exact decide_eq_true (by simpa using log_lt h)
  · simp only [PyData.shown]
    have := num_len h
    rw [len_tl]
    show (tl (nS n)).length ≤ 60
    rw [tl_nS]
    exact this
theorem Rep.neg1 {k : Nat} : Rep (.int (-1)) 60 k := by
  refine ⟨by simp only [PyData.showable]; decide +kernel, by simp only [PyData.hasDict], by simp only [PyData.depth]; omega, ?_⟩
  simp only [PyData.shown]
  decide +kernel
theorem nm_str (h : isNm w = true) : PyData.strOk w = true := by
  have h2 := (Bool.and_eq_true_iff.mp h).2
  show w.cps.all (· < 0x110000) = true
  rw [Array.all_eq_true']
  intro c hc
  have := of_decide_eq_true (List.all_eq_true.mp h2 c (Array.mem_toList_iff.mpr hc))
  have z : ∀ c ∈ abc.cps.toList, c < 200 := by decide +kernel
  have := z c this
  simp
  omega
theorem EvOk.rep (h : EvOk d s) : Rep d 600 2 := by
  cases h with
  | @wd kind u _ hk hs =>
    obtain ⟨q1, q2, q3, q4⟩ := kind_short hk
    have hu : PyData.strOk u = true := by
      rcases hk with ⟨_, h⟩ | ⟨_, h⟩
      · exact mem_ok caW_all h
      · exact nm_str h
    rw [← len_tl] at q3 q4
    exact (Rep.tup ((Reps.nil (k := 0)).cons (Rep.str hu) |>.cons (Rep.str q2))).mono (by simp only [List.length_cons, List.length_nil]; omega) (by omega)
  | @go n m u _ h1 h2 h3 h4 =>
    have l3 := st_short (go_st h1)
    have ho := mem_ok stW_all (go_st h1)
    have l4 : ("step" : Str).length = 4 := by decide +kernel
    exact (Rep.tup ((Reps.nil (k := 1)).cons (Rep.tup ((Reps.nil (k := 0)).cons (Rep.nat h3) |>.cons (Rep.str ho) |>.cons (Rep.nat h2))) |>.cons (Rep.str (x := "step") (by decide +kernel)))).mono (by simp only [List.length_cons, List.length_nil]; omega) (by omega)
  | @st n u _ h1 h2 h3 h4 =>
    have l3 := st_short h1
    have ho := mem_ok stW_all h1
    have l4 : ("step" : Str).length = 4 := by decide +kernel
    exact (Rep.tup ((Reps.nil (k := 1)).cons (Rep.tup ((Reps.nil (k := 0)).cons Rep.neg1 |>.cons (Rep.str ho) |>.cons (Rep.nat h3))) |>.cons (Rep.str (x := "step") (by decide +kernel)))).mono (by simp only [List.length_cons, List.length_nil]; omega) (by omega)
/-! heard -/
theorem heard_t {sub : Str → Option Bool} {hx : Str → List (Str × D) → Option D} {m : Md D} (H : m e = .ok d e1) : eHeard "told" sub hx m e = .ok (.tuple [.str "told", d]) e1 := by unfold eHeard; rw [H]
theorem heard_x {sub : Str → Option Bool} {hx : Str → List (Str × D) → Option D} {m : Md D} {c : Str} {fs : List (Str × D)} {y : D} (H : m e = .err c fs e1) (h1 : sub c = some true) (h2 : hx c fs = some y) : eHeard "told" sub hx m e = .ok y e1 := by unfold eHeard; rw [H]; simp only [h1, h2]
theorem sub_tx : subPipe "InvalidText" = some true := by decide +kernel
theorem sub_nu : subPipe "NotUsable" = some true := by decide +kernel
theorem hear_tx {l : Int} {k : Nat} : hearPipe "InvalidText" (iTx l k) = some (.tuple [.str "text", .int l, .int (k : Nat)]) := rfl
theorem hear_nu {x : D} : hearPipe "NotUsable" (iNu x) = some (.tuple [.str "use", x, .int (-1)]) := rfl
/-- what is heard of a reading -/
def heardOf (r : Except Nat D) : D := match r with
  | .ok d => .tuple [.str "told", d]
  | .error k => .tuple [.str "text", .int 0, .int (k : Nat)]
theorem heard_rd {m : Md SV} (r : Except Nat D) (H : m e = match r with
    | .ok d => .ok (.d d) e
    | .error k => .err "InvalidText" (iTx 0 k) e) : eHeard "told" subPipe hearPipe (oToD m) e = .ok (heardOf r) e := by
  cases r with
  | ok d => exact heard_t (toD_ok H)
  | error k => exact heard_x (toD_err H) sub_tx hear_tx
end
end VL
namespace VL
open PySem TL
section
variable {w : Str} {d : D} {s : Str} {e e1 : Env} {ws : List Str}
theorem fin_err {n k : Nat} {d : D} (h : fin ws n d = .error k) : k = n := by
  unfold fin at h
  split at h
  · cases h
  · cases h; rfl
theorem pStep_err {k : Nat} (h : pStep ws = .error k) : k ≤ 4 := by
  unfold pStep at h
  split at h
  · cases h; decide
  · split at h
    · cases h; decide
    · split at h
      · split at h
        · cases h; decide
        · rw [fin_err h]; decide
      · rw [fin_err h]; decide
theorem pEvent_err {k : Nat} (h : pEvent ws = .error k) : k ≤ 4 := by
  unfold pEvent at h
  split at h
  · cases h; decide
  · split at h
    · split at h
      · cases h
      · rename_i k2 hq
        cases h
        exact pStep_err hq
    · split at h
      · cases h; decide
      · rw [fin_err h]; decide
theorem heard_rep (h : POk s) : Rep (heardOf (pEvent (spl s))) 800 3 := by
  cases q : pEvent (spl s) with
  | ok d =>
    have l4 : ("told" : Str).length = 4 := by decide +kernel
    exact (Rep.tup ((Reps.nil (k := 2)).cons (event_back h q).rep |>.cons (Rep.str (x := "told") (by decide +kernel)))).mono (by simp only [List.length_cons, List.length_nil]; omega) (by omega)
  | error k =>
    have hk := pEvent_err q
    have l4 : ("text" : Str).length = 4 := by decide +kernel
    exact (Rep.tup ((Reps.nil (k := 2)).cons (Rep.nat (n := k) (Nat.lt_of_le_of_lt hk (by decide +kernel))) |>.cons (Rep.nat (n := 0) (by decide +kernel)) |>.cons (Rep.str (x := "text") (by decide +kernel)))).mono (by simp only [List.length_cons, List.length_nil]; omega) (by omega)
theorem isread_ok (h : POk s) : f_law_is_read [.d (.str s)] = .ok (.d (.bool true)) [.unset] := by
  have hz : sizeLine = 16777216 := sizeLine_eq
  have hr := heard_rep h
  have hback := fun d => event_back (s := s) (d := d) h
  have hrd := read_str h
  have hlr := lread_ok h
  revert hr hback hrd hlr
  generalize pEvent (spl s) = r
  intro hr hback hrd hlr
  -- the readings
  have h1 : ∀ a b, eHeard "told" subPipe hearPipe (oToD (oCallN 1 f_read_event [] (aaV (eV 0) aaN))) [.d (.str s), a, b] = .ok (heardOf r) [.d (.str s), a, b] := fun a b => heard_rd r (by
    cases r with
    | ok d => exact c1 (x := .str s) rfl hrd
    | error k => exact c1e (x := .str s) rfl hrd)
  have h2 : ∀ a b, eHeard "told" subPipe hearPipe (oToD (oCallK 1 f_read_event [] aNil (aCons (eV 0) aNil))) [.d (.str s), a, b] = .ok (heardOf r) [.d (.str s), a, b] := fun a b => heard_rd r (by
    cases r with
    | ok d => exact k1 (x := .str s) rfl hrd
    | error k => exact k1e (x := .str s) rfl hrd)
  have s1 : sSt (gN 1) (oToD (oCallN 1 f_law_read_event [] (aaV (eV 0) aaN))) [.d (.str s), .unset, .unset] = .nx [.d (.str s), .d (dueOf r), .unset] := st_n (toD_ok (c1 (x := .str s) rfl hlr))
  have s2 : sSt (gN 1) (eIf (tB (eOp1 (dIsi "tuple") (eV 1)) truthS) (eL dTup (aCons (eK (.str "told")) (aCons (eV 1) aNil))) (eL dTup (aCons (eK (.str "text")) (aCons (eK (.int 0)) (aCons (eV 1) aNil))))) [.d (.str s), .d (dueOf r), .unset] = .nx [.d (.str s), .d (heardOf r), .unset] := by
    cases r with
    | error k => rfl
    | ok d =>
      have hb := hback d rfl
      refine st_n (j := 1) (e1 := [.d (.str s), .d d, .unset]) ?_
      refine (eif_t (e1 := [.d (.str s), .d d, .unset]) ?_).trans rfl
      cases hb <;> rfl
  have s3 : sStO 2 (oLst (aCons (eHeard "told" subPipe hearPipe (oToD (oCallN 1 f_read_event [] (aaV (eV 0) aaN)))) aNil)) [.d (.str s), .d (heardOf r), .unset] = .nx [.d (.str s), .d (heardOf r), .ol [heardOf r]] := by
    refine sto_ok (e1 := [.d (.str s), .d (heardOf r), .unset]) ?_ (Nat.le_of_ble_eq_true rfl)
    unfold oLst
    refine (bnd_ok (cons_ok (h1 _ _) aN_ok)).trans ?_
    exact if_pos (Nat.le_of_ble_eq_true rfl)
  have s4 : sEx (oLm 2 wAppend (aCons (eHeard "told" subPipe hearPipe (oToD (oCallK 1 f_read_event [] aNil (aCons (eV 0) aNil)))) aNil)) [.d (.str s), .d (heardOf r), .ol [heardOf r]] = .nx [.d (.str s), .d (heardOf r), .ol [heardOf r, heardOf r]] := by
    refine ex_ok (v := .d .none) ?_
    unfold oLm
    rw [if_pos (by rfl)]
    exact (bnd_ok (cons_ok (h2 _ _) aN_ok)).trans rfl
  have rp : dRepr [.list [heardOf r, heardOf r]] = some (.str (PyData.shown (.list [heardOf r, heardOf r]))) := dRepr_ok (Rep.lst ((Reps.nil (k := 3)).cons hr |>.cons hr)) (by simp only [List.length_cons, List.length_nil]; omega) (by decide)
  have p1 : ePk1 2 dRepr [.d (.str s), .d (heardOf r), .ol [heardOf r, heardOf r]] = .ok (.str (PyData.shown (.list [heardOf r, heardOf r]))) [.d (.str s), .d (heardOf r), .ol [heardOf r, heardOf r]] := by
    show (match dRepr [.list [heardOf r, heardOf r]] with | some z => if isScal z = true then Res.ok z _ else .stuck | none => .stuck) = _
    rw [rp]
    rfl
  have s5 : sIf (tCm dNe (ePk1 2 dRepr) (eL dRepr (aCons (eL dLst (aCons (eV 1) (aCons (eV 1) aNil))) aNil))) (sRt (oD (eK (.bool false)))) sNx [.d (.str s), .d (heardOf r), .ol [heardOf r, heardOf r]] = .nx [.d (.str s), .d (heardOf r), .ol [heardOf r, heardOf r]] := by
    have q : eL dLst (aCons (eV 1) (aCons (eV 1) aNil)) [.d (.str s), .d (heardOf r), .ol [heardOf r, heardOf r]] = .ok (.list [heardOf r, heardOf r]) [.d (.str s), .d (heardOf r), .ol [heardOf r, heardOf r]] := rfl
    refine (if_f (tcm_ok (f := dNe) p1 (eL1 q rp) ?_)).trans rfl
    show some (PyData.bool (!((PyData.shown (.list [heardOf r, heardOf r])) == (PyData.shown (.list [heardOf r, heardOf r]))))) = _
    rw [beq_self_eq_true]
    rfl
  refine callS_rt (e := [.d (.str s), .d (heardOf r), .ol [heardOf r, heardOf r]]) ?_
  refine (seq_nx s1).trans ((seq_nx s2).trans ((seq_nx s3).trans ((seq_nx s4).trans ((seq_nx s5).trans (rtD ?_)))))
  cases r with
  | error k =>
    refine eor_t (op2_ok (x := .str "text") (y := .str "text") ?_ rfl (dEq_t (by decide +kernel) (by decide +kernel) (by decide +kernel)))
    exact op2_ok (x := .tuple [.str "text", .int 0, .int (k : Nat)]) (y := .int 0) rfl rfl rfl
  | ok d =>
    have hb := hback d rfl
    have rs : dRepr [.str s] = some (.str (PyData.shown (.str s))) := dRepr_ok (Rep.str (k := 0) h.1) (by have := h.2; omega) (by decide)
    have hi : ∀ k x, [PyData.str "told", d][k]? = some x → eOp2 dIx (eV 1) (eK (.int (k : Nat))) [.d (.str s), .d (heardOf (.ok d)), .ol [heardOf (.ok d), heardOf (.ok d)]] = .ok x [.d (.str s), .d (heardOf (.ok d)), .ol [heardOf (.ok d), heardOf (.ok d)]] := fun k x hx => op2_ok (x := .tuple [.str "told", d]) (y := .int (k : Nat)) rfl rfl (dIx_t hx)
    have t1 : eOp2 dEq (eOp2 dIx (eV 1) (eK (.int 0))) (eK (.str "text")) [.d (.str s), .d (heardOf (.ok d)), .ol [heardOf (.ok d), heardOf (.ok d)]] = .ok (.bool false) [.d (.str s), .d (heardOf (.ok d)), .ol [heardOf (.ok d), heardOf (.ok d)]] := op2_ok (y := .str "text") (hi 0 _ rfl) rfl (dEq_t (by decide +kernel) (by decide +kernel) (by decide +kernel))
    refine (eor_f t1).trans ?_
    refine op2_ok (eL1 (toD_ok (c1 (hi 1 _ rfl) (evline_ok hb))) rs) (eL1 (x := .str s) rfl rs) ?_
    show some (PyData.bool ((PyData.shown (.str s)) == (PyData.shown (.str s)))) = _
    rw [beq_self_eq_true]
end
end VL

set_option Elab.async false
set_option autoImplicit false
set_option linter.all false
set_option maxRecDepth 100000
set_option maxHeartbeats 4000000
set_option exponentiation.threshold 3000
/-! K72f: the plain law of k72: draws. -/
namespace VL
open PySem TL
section
abbrev d8 (s : SV) (m a b c f g h : SV) : Env := [s, m, a, b, c, f, g, h]
theorem draw_ok : DrawOk 1000000 f_law_draw := by
  intro n s many hn hf h0 hm
  obtain ⟨cs, sp, lf, dr, rfl, hd0, hdn, hcs⟩ := hf
  have hM : (0 : Int) < (many : Nat) := by omega
  have hM2 : ((many : Nat) : Int) < 1000000000 := by omega
  -- the first three
  have s1 : sPar3 2 3 4 (aCons (eOp2 dAdd (eDget 0 (eK (.str "drawn"))) (eK (.int 1))) (aCons (eDget 0 (eK (.str "spot"))) (aCons (eDget 0 (eK (.str "cells"))) aNil))) (d8 (fdS cs sp lf dr) (.d (.int (many : Nat))) .unset .unset .unset .unset .unset .unset) = .nx (d8 (fdS cs sp lf dr) (.d (.int (many : Nat))) (.d (.int (dr + 1))) (.d (.int sp)) (.d (.list (cs.map .int))) .unset .unset .unset) := rfl
  have s2 : sDput 0 (eV 2) (eK (.str "drawn")) (d8 (fdS cs sp lf dr) (.d (.int (many : Nat))) (.d (.int (dr + 1))) (.d (.int sp)) (.d (.list (cs.map .int))) .unset .unset .unset) = .nx (d8 (fdS cs sp lf (dr + 1)) (.d (.int (many : Nat))) (.d (.int (dr + 1))) (.d (.int sp)) (.d (.list (cs.map .int))) .unset .unset .unset) := rfl
  have t3 : tCm dGt (eDget 0 (eK (.str "left"))) (eK (.int 0)) (d8 (fdS cs sp lf (dr + 1)) (.d (.int (many : Nat))) (.d (.int (dr + 1))) (.d (.int sp)) (.d (.list (cs.map .int))) .unset .unset .unset) = .ok (decide (0 < lf)) (d8 (fdS cs sp lf (dr + 1)) (.d (.int (many : Nat))) (.d (.int (dr + 1))) (.d (.int sp)) (.d (.list (cs.map .int))) .unset .unset .unset) := rfl
  have feed : ∀ sp lf, Feed (n + 1) (fdS cs sp lf (dr + 1)) := fun sp lf => ⟨cs, sp, lf, dr + 1, rfl, by omega, by omega, hcs⟩
  have nat : ∀ (r : Int), 0 ≤ r → r < (many : Nat) → ∃ k : Nat, r = (k : Nat) ∧ k < many := fun r h1 h2 => ⟨r.toNat, by omega, by omega⟩
  by_cases hlf : 0 < lf
  · rw [decide_eq_true hlf] at t3
    obtain ⟨r, r1, r2, r3⟩ := modI (i := lf) hM
    obtain ⟨q, q1⟩ := divI (i := lf) hM hM2
    obtain ⟨k, rfl, k2⟩ := nat r r2 r3
    refine ⟨k, fdS cs sp q (dr + 1), ?_, k2, feed _ _⟩
    refine callS_rt (e := d8 (fdS cs sp q (dr + 1)) (.d (.int (many : Nat))) (.d (.int (dr + 1))) (.d (.int sp)) (.d (.list (cs.map .int))) (.d (.int (k : Nat))) .unset .unset) ?_
    refine (seq_nx s1).trans ((seq_nx s2).trans (seq_rt ((if_t t3).trans ?_)))
    refine (seq_nx (st_n (j := 5) (e1 := d8 (fdS cs sp lf (dr + 1)) (.d (.int (many : Nat))) (.d (.int (dr + 1))) (.d (.int sp)) (.d (.list (cs.map .int))) .unset .unset .unset) (op2_ok (x := .int lf) (y := .int (many : Nat)) rfl rfl r1))).trans ?_
    refine (seq_nx (dput_ok (i := 0) (k := "left") (e1 := d8 (fdS cs sp lf (dr + 1)) (.d (.int (many : Nat))) (.d (.int (dr + 1))) (.d (.int sp)) (.d (.list (cs.map .int))) (.d (.int (k : Nat))) .unset .unset) (op2_ok (x := .int lf) (y := .int (many : Nat)) rfl rfl q1) rfl rfl rfl (Nat.le_of_ble_eq_true rfl))).trans ?_
    exact rtD rfl
  · rw [decide_eq_false hlf] at t3
    have s3 := if_f (g := sSeq (sSt (gN 5) (eOp2 dMod (eL dInt (aCons (eDget 0 (eK (.str "left"))) aNil)) (eV 1))) (sSeq (sDput 0 (eOp2 dFdiv (eDget 0 (eK (.str "left"))) (eV 1)) (eK (.str "left"))) (sRt (oD (eV 5))))) (h := sNx) t3
    have s4 : sDput 0 (eOp2 dAdd (eV 3) (eK (.int 1))) (eK (.str "spot")) (d8 (fdS cs sp lf (dr + 1)) (.d (.int (many : Nat))) (.d (.int (dr + 1))) (.d (.int sp)) (.d (.list (cs.map .int))) .unset .unset .unset) = .nx (d8 (fdS cs (sp + 1) lf (dr + 1)) (.d (.int (many : Nat))) (.d (.int (dr + 1))) (.d (.int sp)) (.d (.list (cs.map .int))) .unset .unset .unset) := rfl
    -- the cell
    have s5 : ∃ c : Int, sSt (gN 6) (eIf (tCm dNe (eV 4) (eL dLst aNil)) (eOp2 dIx (eV 4) (eOp2 dMod (eL dInt (aCons (eV 3) aNil)) (eL dLen (aCons (eV 4) aNil)))) (eK (.int 9964))) (d8 (fdS cs (sp + 1) lf (dr + 1)) (.d (.int (many : Nat))) (.d (.int (dr + 1))) (.d (.int sp)) (.d (.list (cs.map .int))) .unset .unset .unset) = .nx (d8 (fdS cs (sp + 1) lf (dr + 1)) (.d (.int (many : Nat))) (.d (.int (dr + 1))) (.d (.int sp)) (.d (.list (cs.map .int))) .unset (.d (.int c)) .unset) := by
      have t : tCm dNe (eV 4) (eL dLst aNil) (d8 (fdS cs (sp + 1) lf (dr + 1)) (.d (.int (many : Nat))) (.d (.int (dr + 1))) (.d (.int sp)) (.d (.list (cs.map .int))) .unset .unset .unset) = .ok (!cs.isEmpty) (d8 (fdS cs (sp + 1) lf (dr + 1)) (.d (.int (many : Nat))) (.d (.int (dr + 1))) (.d (.int sp)) (.d (.list (cs.map .int))) .unset .unset .unset) := by
        refine tcm_ok (x := .list (cs.map .int)) (y := .list []) rfl rfl ?_
        show (if SeqAt.shaped (.list (cs.map .int)) = true ∧ SeqAt.shaped (.list []) = true then some (PyData.bool (!PyData.eqv (.list (cs.map .int)) (.list []))) else none) = _
        rw [if_pos ⟨shIs, by decide +kernel⟩]
        cases cs <;> simp only [PyData.eqv, List.map_nil, List.map_cons, PyData.eqvAll] <;> rfl
      cases hc : cs with
      | nil =>
        subst hc
        exact ⟨9964, st_n (j := 6) (e1 := d8 (fdS [] (sp + 1) lf (dr + 1)) (.d (.int (many : Nat))) (.d (.int (dr + 1))) (.d (.int sp)) (.d (.list [])) .unset .unset .unset) ((eif_f t).trans rfl)⟩
      | cons c0 cr =>
        rw [← hc]
        have hl : 0 < cs.length := by rw [hc]; simp
        rw [show (!cs.isEmpty) = true by rw [hc]; rfl] at t
        obtain ⟨r, r1, r2, r3⟩ := modI (i := sp) (j := ((cs.length : Nat) : Int)) (by omega)
        obtain ⟨k, rfl, k2⟩ : ∃ k : Nat, r = (k : Nat) ∧ k < cs.length := ⟨r.toNat, by omega, by omega⟩
        refine ⟨cs[k], st_n (j := 6) (e1 := d8 (fdS cs (sp + 1) lf (dr + 1)) (.d (.int (many : Nat))) (.d (.int (dr + 1))) (.d (.int sp)) (.d (.list (cs.map .int))) .unset .unset .unset) ((eif_t t).trans ?_)⟩
        have hlen : eL dLen (aCons (eV 4) aNil) (d8 (fdS cs (sp + 1) lf (dr + 1)) (.d (.int (many : Nat))) (.d (.int (dr + 1))) (.d (.int sp)) (.d (.list (cs.map .int))) .unset .unset .unset) = .ok (.int (cs.length : Nat)) (d8 (fdS cs (sp + 1) lf (dr + 1)) (.d (.int (many : Nat))) (.d (.int (dr + 1))) (.d (.int sp)) (.d (.list (cs.map .int))) .unset .unset .unset) := eL1 (x := .list (cs.map .int)) rfl (by show some (PyData.int _) = _; simp)
        exact op2_ok (x := .list (cs.map .int)) (y := .int (k : Nat)) rfl (op2_ok (x := .int sp) rfl hlen r1) (dIx_l (by rw [List.getElem?_map, List.getElem?_eq_getElem k2]; rfl))
    obtain ⟨c, s5⟩ := s5
    have t6 : ∃ p, tAn (tCm dGe (eV 6) (eOp2 dPow (eK (.int 10)) (eK (.int 18)))) (tCm dLt (eV 3) (eL dLen (aCons (eV 4) aNil))) (d8 (fdS cs (sp + 1) lf (dr + 1)) (.d (.int (many : Nat))) (.d (.int (dr + 1))) (.d (.int sp)) (.d (.list (cs.map .int))) .unset (.d (.int c)) .unset) = .ok p (d8 (fdS cs (sp + 1) lf (dr + 1)) (.d (.int (many : Nat))) (.d (.int (dr + 1))) (.d (.int sp)) (.d (.list (cs.map .int))) .unset (.d (.int c)) .unset) := by
      have a : tCm dGe (eV 6) (eOp2 dPow (eK (.int 10)) (eK (.int 18))) (d8 (fdS cs (sp + 1) lf (dr + 1)) (.d (.int (many : Nat))) (.d (.int (dr + 1))) (.d (.int sp)) (.d (.list (cs.map .int))) .unset (.d (.int c)) .unset) = .ok (decide ((10 : Int) ^ 18 ≤ c)) (d8 (fdS cs (sp + 1) lf (dr + 1)) (.d (.int (many : Nat))) (.d (.int (dr + 1))) (.d (.int sp)) (.d (.list (cs.map .int))) .unset (.d (.int c)) .unset) := tcm_ok (x := .int c) (y := .int (10 ^ 18)) rfl rfl rfl
      have b : tCm dLt (eV 3) (eL dLen (aCons (eV 4) aNil)) (d8 (fdS cs (sp + 1) lf (dr + 1)) (.d (.int (many : Nat))) (.d (.int (dr + 1))) (.d (.int sp)) (.d (.list (cs.map .int))) .unset (.d (.int c)) .unset) = .ok (decide (sp < (((cs.map PyData.int).length : Nat) : Int))) (d8 (fdS cs (sp + 1) lf (dr + 1)) (.d (.int (many : Nat))) (.d (.int (dr + 1))) (.d (.int sp)) (.d (.list (cs.map .int))) .unset (.d (.int c)) .unset) := tcm_ok (x := .int sp) (y := .int (((cs.map PyData.int).length : Nat) : Int)) rfl rfl rfl
      exact ⟨_, tan_b a b⟩
    obtain ⟨p, t6⟩ := t6
    have pre : ∀ rest, (sSeq (sPar3 2 3 4 (aCons (eOp2 dAdd (eDget 0 (eK (.str "drawn"))) (eK (.int 1))) (aCons (eDget 0 (eK (.str "spot"))) (aCons (eDget 0 (eK (.str "cells"))) aNil)))) (sSeq (sDput 0 (eV 2) (eK (.str "drawn"))) (sSeq (sIf (tCm dGt (eDget 0 (eK (.str "left"))) (eK (.int 0))) (sSeq (sSt (gN 5) (eOp2 dMod (eL dInt (aCons (eDget 0 (eK (.str "left"))) aNil)) (eV 1))) (sSeq (sDput 0 (eOp2 dFdiv (eDget 0 (eK (.str "left"))) (eV 1)) (eK (.str "left"))) (sRt (oD (eV 5))))) sNx) (sSeq (sDput 0 (eOp2 dAdd (eV 3) (eK (.int 1))) (eK (.str "spot"))) (sSeq (sSt (gN 6) (eIf (tCm dNe (eV 4) (eL dLst aNil)) (eOp2 dIx (eV 4) (eOp2 dMod (eL dInt (aCons (eV 3) aNil)) (eL dLen (aCons (eV 4) aNil)))) (eK (.int 9964)))) rest))))) (d8 (fdS cs sp lf dr) (.d (.int (many : Nat))) .unset .unset .unset .unset .unset .unset) = rest (d8 (fdS cs (sp + 1) lf (dr + 1)) (.d (.int (many : Nat))) (.d (.int (dr + 1))) (.d (.int sp)) (.d (.list (cs.map .int))) .unset (.d (.int c)) .unset) := fun rest =>
      (seq_nx s1).trans ((seq_nx s2).trans ((seq_nx (s3.trans rfl)).trans ((seq_nx s4).trans (seq_nx s5))))
    cases p with
    | true =>
      obtain ⟨r, r1, r2, r3⟩ := modI (i := c) hM
      obtain ⟨q, q1⟩ := divI (i := c) hM hM2
      obtain ⟨k, rfl, k2⟩ := nat r r2 r3
      refine ⟨k, fdS cs (sp + 1) q (dr + 1), ?_, k2, feed _ _⟩
      refine callS_rt (e := d8 (fdS cs (sp + 1) q (dr + 1)) (.d (.int (many : Nat))) (.d (.int (dr + 1))) (.d (.int sp)) (.d (.list (cs.map .int))) .unset (.d (.int c)) .unset) ((pre _).trans ?_)
      refine seq_rt ((if_t t6).trans ?_)
      refine (seq_nx (dput_ok (i := 0) (k := "left") (e1 := d8 (fdS cs (sp + 1) lf (dr + 1)) (.d (.int (many : Nat))) (.d (.int (dr + 1))) (.d (.int sp)) (.d (.list (cs.map .int))) .unset (.d (.int c)) .unset) (op2_ok (x := .int c) (y := .int (many : Nat)) rfl rfl q1) rfl rfl rfl (Nat.le_of_ble_eq_true rfl))).trans (rtD ?_)
      exact op2_ok (x := .int c) (y := .int (many : Nat)) rfl rfl r1
    | false =>
      obtain ⟨a1, m1, m2, m3⟩ := modI (i := c) (j := 1000000181) (by decide)
      obtain ⟨a2, n1, n2, n3⟩ := modI (i := a1 + 79512 * (dr + 1) + 716) (j := 2147483647) (by decide)
      obtain ⟨a3, o1, o2, o3⟩ := modI (i := a2 * a2 + 5741816 * (dr + 1) * (dr + 1) + 112) (j := 2147483629) (by decide)
      obtain ⟨a4, p1, p2, p3⟩ := modI (i := a3 * a3 + 444 * a3) (j := 2147483587) (by decide)
      obtain ⟨a5, q1⟩ := divI (i := a4) (j := 32) (by decide) (by decide)
      obtain ⟨r, r1, r2, r3⟩ := modI (i := a5) hM
      obtain ⟨k, rfl, k2⟩ := nat r r2 r3
      refine ⟨k, fdS cs (sp + 1) lf (dr + 1), ?_, k2, feed _ _⟩
      have big : ∀ z : Int, 0 ≤ z → z ≤ 100000000000000000000 → z.natAbs < 2 ^ 200 := fun z h1 h2 => by
        have : (100000000000000000001 : Nat) < 2 ^ 200 := by decide +kernel
        omega
      refine callS_rt (e := d8 (fdS cs (sp + 1) lf (dr + 1)) (.d (.int (many : Nat))) (.d (.int (dr + 1))) (.d (.int sp)) (.d (.list (cs.map .int))) .unset (.d (.int c)) (.d (.int a3))) ((pre _).trans ?_)
      refine (seq_nx (g := sIf _ _ _) ((if_f t6).trans rfl)).trans ?_
      refine (seq_nx (st_n (j := 7) (x := .int a2) (e1 := d8 (fdS cs (sp + 1) lf (dr + 1)) (.d (.int (many : Nat))) (.d (.int (dr + 1))) (.d (.int sp)) (.d (.list (cs.map .int))) .unset (.d (.int c)) .unset) ?_)).trans ?_
      · refine op2_ok (y := .int 2147483647) (eL1 (f := dInt) (x := .int (a1 + 79512 * (dr + 1) + 716)) ?_ rfl) rfl n1
        refine op2_ok (x := .int (a1 + 79512 * (dr + 1))) (y := .int 716) ?_ rfl rfl
        refine op2_ok (x := .int a1) (y := .int (79512 * (dr + 1))) (op2_ok (x := .int c) (y := .int 1000000181) rfl rfl m1) ?_ rfl
        exact op2_ok (x := .int 79512) (y := .int (dr + 1)) rfl rfl (mulI (by decide +kernel) (big _ (by omega) (by omega)))
      refine (seq_nx (st_n (j := 7) (x := .int a3) (e1 := d8 (fdS cs (sp + 1) lf (dr + 1)) (.d (.int (many : Nat))) (.d (.int (dr + 1))) (.d (.int sp)) (.d (.list (cs.map .int))) .unset (.d (.int c)) (.d (.int a2))) ?_)).trans ?_
      · refine op2_ok (y := .int 2147483629) (eL1 (f := dInt) (x := .int (a2 * a2 + 5741816 * (dr + 1) * (dr + 1) + 112)) ?_ rfl) rfl o1
        refine op2_ok (x := .int (a2 * a2 + 5741816 * (dr + 1) * (dr + 1))) (y := .int 112) ?_ rfl rfl
        refine op2_ok (x := .int (a2 * a2)) (y := .int (5741816 * (dr + 1) * (dr + 1))) (op2_ok (x := .int a2) (y := .int a2) rfl rfl (mulI (big _ n2 (by omega)) (big _ n2 (by omega)))) ?_ rfl
        refine op2_ok (x := .int (5741816 * (dr + 1))) (y := .int (dr + 1)) (op2_ok (x := .int 5741816) (y := .int (dr + 1)) rfl rfl (mulI (by decide +kernel) (big _ (by omega) (by omega)))) rfl (mulI (big _ (by omega) (by omega)) (big _ (by omega) (by omega)))
      refine rtD ?_
      refine op2_ok (e1 := d8 (fdS cs (sp + 1) lf (dr + 1)) (.d (.int (many : Nat))) (.d (.int (dr + 1))) (.d (.int sp)) (.d (.list (cs.map .int))) .unset (.d (.int c)) (.d (.int a3))) (y := .int (many : Nat)) (eL1 (f := dInt) (x := .int a5) ?_ rfl) rfl r1
      refine op2_ok (x := .int a4) (y := .int 32) ?_ rfl q1
      refine op2_ok (e1 := d8 (fdS cs (sp + 1) lf (dr + 1)) (.d (.int (many : Nat))) (.d (.int (dr + 1))) (.d (.int sp)) (.d (.list (cs.map .int))) .unset (.d (.int c)) (.d (.int a3))) (y := .int 2147483587) (eL1 (f := dInt) (x := .int (a3 * a3 + 444 * a3)) ?_ rfl) rfl p1
      refine op2_ok (x := .int (a3 * a3)) (y := .int (444 * a3)) (op2_ok (x := .int a3) (y := .int a3) rfl rfl (mulI (big _ o2 (by omega)) (big _ o2 (by omega)))) ?_ rfl
      exact op2_ok (x := .int 444) (y := .int a3) rfl rfl (mulI (by decide +kernel) (big _ o2 (by omega)))
end
end VL

set_option Elab.async false
set_option autoImplicit false
set_option linter.all false
set_option maxRecDepth 100000
set_option maxHeartbeats 4000000
set_option exponentiation.threshold 3000
/-! K72g: the plain law of k72: what is drawn. -/
namespace VL
open PySem TL
section
variable {n : Nat} {s : SV}
theorem any_ok : AnyOk 1000000 f_law_any := any_of draw_ok
theorem feed_ok (ns : List Int) (h : ns.length ≤ 63) : ∃ s, f_law_feed [.d (.list (ns.map .int))] = .ok s [.unset] ∧ Feed 0 s := by
  have hz : sizeLine = 16777216 := sizeLine_eq
  obtain ⟨cs, hcs, hl⟩ : ∃ cs : List Int, cutG (ns.map PyData.int) none (some 63) = cs.map PyData.int ∧ cs.length ≤ 63 := ⟨cutG ns none (some 63), cutG_map _ _ _ _, Nat.le_trans (cutG_len _ _ _) h⟩
  obtain ⟨e', h1, ⟨u, rfl⟩⟩ := lcR_run (vs := [1]) (g := gN 1) (t := tYs) (f := eL dInt (aCons (eV 1) aNil)) (fun e => ∃ u, e = [.d (.list (ns.map .int)), u]) (fun _ => true) (fun x => x) (cs.map PyData.int) (fun x hx e he => by
    obtain ⟨u, rfl⟩ := he
    obtain ⟨c, hc, rfl⟩ := List.mem_map.mp hx
    exact ⟨_, _, rfl, rfl, fun _ => ⟨_, rfl, _, rfl⟩, fun h => absurd h (by decide)⟩) [.d (.list (ns.map .int)), .unset] ⟨_, rfl⟩
  rw [List.map_id', List.filter_eq_self.mpr (fun _ _ => rfl)] at h1
  have hit : iOf itL (eSl (eV 0) pcN (pcS (eK (.int 63)))) [.d (.list (ns.map .int)), .unset] = .ok (cs.map PyData.int) [.d (.list (ns.map .int)), .unset] := by
    show Res.ok (cutG (ns.map PyData.int) none (some 63)) _ = _
    rw [hcs]
  have hc := lc_ok hit (by rfl) h1
  refine ⟨fdS cs 0 0 0, ?_, cs, 0, 0, 0, rfl, by omega, by omega, hl⟩
  refine callS_rt (e := [.d (.list (ns.map .int)), .unset]) (rt_ok ?_)
  have hk : kCons "cells" (eLc (iOf itL (eSl (eV 0) pcN (pcS (eK (.int 63))))) ([(("_law_cell" : Str), 1)].map (·.2)) (gN 1) tYs (eL dInt (aCons (eV 1) aNil))) (kCons "spot" (eK (.int 0)) (kCons "left" (eK (.int 0)) (kCons "drawn" (eK (.int 0)) kNil))) [.d (.list (ns.map .int)), .unset] = .ok [("cells", .list (cs.map .int)), ("spot", .int 0), ("left", .int 0), ("drawn", .int 0)] [.d (.list (ns.map .int)), .unset] := by
    show bnd _ _ _ = _
    exact (bnd_ok hc).trans rfl
  unfold oDsp
  exact (bnd_ok hk).trans rfl
abbrev pools : List (List Str) := [["a", "b", "c", "d", "e"], ["main", "kid", "server", "k", "ma"], ["house", "mark", "on", "copy", "undo"], ["zzzzzzzz", "zzzzzzzy", "z", "zz", "y"], ["role", "aside", "begin", "step", "end"], ["aaab", "aaba", "abaa", "baaa", "aaaa"], ["story", "careful", "off", "left", "write"]]
theorem pools_ok : (pools.all fun zs => zs.all isNm && decide (zs.length = 5)) = true := by decide +kernel
theorem names_ok (hn : n ≤ 100000) (hf : Feed n s) : ∃ (zs : List Str) (s' : SV), f_law_names [s] = .ok (.d (.list (zs.map .str))) [s'] ∧ (∀ z ∈ zs, isNm z = true) ∧ zs.length = 5 ∧ Feed (n + 3) s' := by
  have s0 : ∀ rest, (sSeq (sSt (gN 1) (eL dLst (aCons (eL dLst (aCons (eK (.str "a")) (aCons (eK (.str "b")) (aCons (eK (.str "c")) (aCons (eK (.str "d")) (aCons (eK (.str "e")) aNil)))))) (aCons (eL dLst (aCons (eK (.str "main")) (aCons (eK (.str "kid")) (aCons (eK (.str "server")) (aCons (eK (.str "k")) (aCons (eK (.str "ma")) aNil)))))) (aCons (eL dLst (aCons (eK (.str "house")) (aCons (eK (.str "mark")) (aCons (eK (.str "on")) (aCons (eK (.str "copy")) (aCons (eK (.str "undo")) aNil)))))) aNil))))) (sSeq (sSt (gN 1) (eOp2 dAdd (eV 1) (eL dLst (aCons (eL dLst (aCons (eK (.str "zzzzzzzz")) (aCons (eK (.str "zzzzzzzy")) (aCons (eK (.str "z")) (aCons (eK (.str "zz")) (aCons (eK (.str "y")) aNil)))))) (aCons (eL dLst (aCons (eK (.str "role")) (aCons (eK (.str "aside")) (aCons (eK (.str "begin")) (aCons (eK (.str "step")) (aCons (eK (.str "end")) aNil)))))) aNil))))) (sSeq (sSt (gN 1) (eOp2 dAdd (eV 1) (eL dLst (aCons (eL dLst (aCons (eK (.str "aaab")) (aCons (eK (.str "aaba")) (aCons (eK (.str "abaa")) (aCons (eK (.str "baaa")) (aCons (eK (.str "aaaa")) aNil)))))) (aCons (eL dLst (aCons (eK (.str "story")) (aCons (eK (.str "careful")) (aCons (eK (.str "off")) (aCons (eK (.str "left")) (aCons (eK (.str "write")) aNil)))))) aNil))))) rest))) [s, .unset, .unset, .unset, .unset, .unset] = rest [s, .d (.list (pools.map fun zs => .list (zs.map .str))), .unset, .unset, .unset, .unset] := fun rest => rfl
  obtain ⟨x, s1, a1, a2, a3⟩ := any_at (m := eV 1) (i := 0) (e := [s, .d (.list (pools.map fun zs => .list (zs.map .str))), .unset, .unset, .unset, .unset]) any_ok rfl hf (by omega) rfl (by simp) (Nat.lt_of_lt_of_le (show 7 < 8 by decide) (by decide))
  obtain ⟨zs, z1, rfl⟩ := List.mem_map.mp a2
  have z2 := List.all_eq_true.mp pools_ok zs z1
  obtain ⟨z3, z4⟩ := Bool.and_eq_true_iff.mp z2
  have z4 := of_decide_eq_true z4
  obtain ⟨p, s2, b1, b2, b3⟩ := draw_at (m := eK (.int 5)) (i := 0) (e := [s1, .d (.list (pools.map fun zs => .list (zs.map .str))), .unset, .unset, .unset, .unset]) (many := 5) draw_ok rfl a3 (by omega) rfl (by decide) (by decide)
  obtain ⟨q, s3, c1, c2, c3⟩ := draw_at (m := eK (.int 4)) (i := 0) (e := [s2, .d (.list (pools.map fun zs => .list (zs.map .str))), .unset, .unset, .unset, .unset]) (many := 4) draw_ok rfl b3 (by omega) rfl (by decide) (by decide)
  have st : sSt (gT 3 (gsC (gN 2) (gsC (gN 3) (gsC (gN 4) gsN)))) (eL dTup (aCons (oToD (oCallN 2 f_law_any [] (aaL 0 (aaV (eV 1) aaN)))) (aCons (oToD (oCallN 2 f_law_draw [] (aaL 0 (aaV (eK (.int 5)) aaN)))) (aCons (eOp2 dAdd (eK (.int 1)) (oToD (oCallN 2 f_law_draw [] (aaL 0 (aaV (eK (.int 4)) aaN))))) aNil)))) [s, .d (.list (pools.map fun zs => .list (zs.map .str))), .unset, .unset, .unset, .unset] = .nx [s3, .d (.list (pools.map fun zs => .list (zs.map .str))), .d (.list (zs.map .str)), .d (.int (p : Nat)), .d (.int (1 + (q : Nat))), .unset] := by
    refine st_ok (x := .tuple [.list (zs.map .str), .int (p : Nat), .int (1 + (q : Nat))]) (e1 := [s3, .d (.list (pools.map fun zs => .list (zs.map .str))), .unset, .unset, .unset, .unset]) ?_ rfl
    exact eL_ok (cons_ok a1 (cons_ok b1 (cons_ok (op2_ok (x := .int 1) rfl c1 rfl) aN_ok))) rfl
  obtain ⟨ys, e', l1, ⟨u, rfl⟩, l3, l4⟩ := lcR_all (vs := [5]) (g := gN 5) (f := eOp2 dIx (eV 2) (eOp2 dMod (eL dInt (aCons (eOp2 dAdd (eV 3) (eOp2 dMul (eV 5) (eV 4))) aNil)) (eK (.int 5)))) (fun e => ∃ u, e = [s3, .d (.list (pools.map fun zs => .list (zs.map .str))), .d (.list (zs.map .str)), .d (.int (p : Nat)), .d (.int (1 + (q : Nat))), u]) (fun y => ∃ z, y = .str z ∧ isNm z = true) ((List.range' 0 5).map fun i : Nat => PyData.int (i : Int)) (fun x hx e he => by
    obtain ⟨u, rfl⟩ := he
    obtain ⟨k, hk, rfl⟩ := List.mem_map.mp hx
    have hk : k < 5 := by
      have := (List.mem_range'_1.mp hk).2; omega
    obtain ⟨r, r1, r2, r3⟩ := modI (i := (p : Nat) + (k : Nat) * (1 + (q : Nat))) (j := 5) (by decide)
    obtain ⟨j, rfl, j2⟩ : ∃ j : Nat, r = (j : Nat) ∧ j < zs.length := ⟨r.toNat, by omega, by omega⟩
    refine ⟨[s3, .d (.list (pools.map fun zs => .list (zs.map .str))), .d (.list (zs.map .str)), .d (.int (p : Nat)), .d (.int (1 + (q : Nat))), .d (.int (k : Nat))], [s3, .d (.list (pools.map fun zs => .list (zs.map .str))), .d (.list (zs.map .str)), .d (.int (p : Nat)), .d (.int (1 + (q : Nat))), .d (.int (k : Nat))], .str zs[j], rfl, ?_, ⟨_, rfl⟩, _, rfl, List.all_eq_true.mp z3 _ (List.getElem_mem _)⟩
    have small : ∀ t : Int, 0 ≤ t → t < 100 → t.natAbs < 2 ^ 200 := fun t h1 h2 => by
      have : (100 : Nat) < 2 ^ 200 := by decide +kernel
      omega
    refine op2_ok (x := .list (zs.map .str)) (y := .int (j : Nat)) rfl (op2_ok (e1 := [s3, .d (.list (pools.map fun zs => .list (zs.map .str))), .d (.list (zs.map .str)), .d (.int (p : Nat)), .d (.int (1 + (q : Nat))), .d (.int (k : Nat))]) (y := .int 5) (eL1 (f := dInt) (x := .int ((p : Nat) + (k : Nat) * (1 + (q : Nat)))) ?_ rfl) rfl r1) (dIx_l (by rw [List.getElem?_map, List.getElem?_eq_getElem j2]; rfl))
    exact op2_ok (x := .int (p : Nat)) (y := .int ((k : Nat) * (1 + (q : Nat)))) rfl (op2_ok (x := .int (k : Nat)) (y := .int (1 + (q : Nat))) rfl rfl (mulI (small _ (by omega) (by omega)) (small _ (by omega) (by omega)))) rfl) [s3, .d (.list (pools.map fun zs => .list (zs.map .str))), .d (.list (zs.map .str)), .d (.int (p : Nat)), .d (.int (1 + (q : Nat))), .unset] ⟨_, rfl⟩
  obtain ⟨ns, rfl, hns⟩ := strs_of ys l3
  refine ⟨ns, s3, ?_, hns, by simpa using l4, c3⟩
  have lc := lc_ok (it := iOfL itR1 (aCons (eK (.int 5)) aNil)) (itR1_ok (m := eK (.int 5)) (n := 5) rfl (by decide)) (by rfl) l1
  refine (callS_rt (nn := 6) (svs := [s]) (e := [s3, .d (.list (pools.map fun zs => .list (zs.map .str))), .d (.list (zs.map .str)), .d (.int (p : Nat)), .d (.int (1 + (q : Nat))), .unset]) (v := .d (.list (ns.map .str))) ?_).trans ?_
  · refine (s0 _).trans ((seq_nx st).trans (rtD ?_))
    exact lc
  · show Res.ok _ [if s3.own = true then s3 else .unset] = _
    rw [if_pos c3.own]
end
end VL
namespace VL
open PySem TL
section
variable {n : Nat} {s : SV} {d : D} {z : Str}
theorem strOk_iff {x : Str} : PyData.strOk x = true ↔ ∀ c ∈ tl x, c < 0x110000 := by
  show x.cps.all (· < 0x110000) = true ↔ _
  rw [Array.all_eq_true']
  constructor
  · intro h c hc
    simpa using h c (Array.mem_toList_iff.mp hc)
  · intro h c hc
    simpa using h c (Array.mem_toList_iff.mpr hc)
theorem EvOk.pok (h : EvOk d z) : PyData.strOk z = true ∧ z.length ≤ 150 := by
  have num : ∀ m, ∀ c ∈ numL m, c < 0x110000 := fun m c hc => by have := numL_digits m c hc; omega
  cases h with
  | @wd kind u _ hk hs =>
    obtain ⟨q1, q2, q3, q4⟩ := kind_short hk
    have hu : PyData.strOk u = true := by
      rcases hk with ⟨_, h⟩ | ⟨_, h⟩
      · exact mem_ok caW_all h
      · exact nm_str h
    refine ⟨strOk_iff.mpr fun c hc => ?_, by rw [len_tl, hs]; simp only [List.length_append, List.length_cons]; omega⟩
    rw [hs] at hc
    simp only [List.mem_append, List.mem_cons] at hc
    rcases hc with h | rfl | h
    · exact strOk_iff.mp q2 c h
    · decide
    · exact strOk_iff.mp hu c h
  | @go a b u _ h1 h2 h3 h4 =>
    have l1 := num_len h2
    have l2 := num_len h3
    have l3 := st_short (go_st h1)
    rw [len_tl] at l3
    have ho := mem_ok stW_all (go_st h1)
    refine ⟨strOk_iff.mpr fun c hc => ?_, by rw [len_tl, h4]; simp only [List.length_append, List.length_cons, List.length_nil]; omega⟩
    rw [h4] at hc
    simp only [List.mem_append, List.mem_cons, List.not_mem_nil, or_false] at hc
    rcases hc with h | rfl | h | rfl | h | rfl | h
    · omega
    · decide
    · exact num _ c h
    · decide
    · exact strOk_iff.mp ho c h
    · decide
    · exact num _ c h
  | @st a u _ h1 h2 h3 h4 =>
    have l1 := num_len h3
    have l3 := st_short h1
    rw [len_tl] at l3
    have ho := mem_ok stW_all h1
    refine ⟨strOk_iff.mpr fun c hc => ?_, by rw [len_tl, h4]; simp only [List.length_append, List.length_cons, List.length_nil]; omega⟩
    rw [h4] at hc
    simp only [List.mem_append, List.mem_cons, List.not_mem_nil, or_false] at hc
    rcases hc with h | rfl | h | rfl | h
    · omega
    · decide
    · exact num _ c h
    · decide
    · exact strOk_iff.mp ho c h
def tenT : Nat := 10 ^ 60
theorem tenT_eq : tenT = 10 ^ 60 := rfl
def tenC (o : Option D) (g h : D → Option D) : Bool := match o with
  | some a => (match g a with
    | some b => (match h b with
      | some (.int i) => decide (0 ≤ i) && decide (i.toNat < tenT)
      | _ => false)
    | none => false)
  | none => false
theorem tenC_ok {o : Option D} {g h : D → Option D} (q : tenC o g h = true) : ∃ (a b : D) (k : Nat), o = some a ∧ g a = some b ∧ h b = some (.int (k : Nat)) ∧ k < tenT := by
  unfold tenC at q
  cases o with
  | none => cases q
  | some a =>
    simp only at q
    cases hb : g a with
    | none => rw [hb] at q; cases q
    | some b =>
      rw [hb] at q
      simp only at q
      cases hi : h b with
      | none => rw [hi] at q; cases q
      | some y =>
        rw [hi] at q
        cases y with
        | int i =>
          simp only at q
          obtain ⟨q1, q2⟩ := Bool.and_eq_true_iff.mp q
          exact ⟨a, b, i.toNat, rfl, hb, by rw [hi, Int.toNat_of_nonneg (of_decide_eq_true q1)], of_decide_eq_true q2⟩
        | _ => cases q
/-- int("1" + "0" * j) -/
def tenB (j : Nat) : Bool := tenC (dMul (.str "0") (.int (j : Nat))) (dAdd (.str "1")) (fun b => dInt [b])
theorem tenB_all : ((List.range 60).all tenB) = true := by decide +kernel
theorem ten_ok {j : Nat} (h : j < 60) : ∃ (a b : D) (k : Nat), dMul (.str "0") (.int (j : Nat)) = some a ∧ dAdd (.str "1") a = some b ∧ dInt [b] = some (.int (k : Nat)) ∧ k < tenT :=
  tenC_ok (List.all_eq_true.mp tenB_all j (List.mem_range.mpr h))
abbrev mkW : List Str := ["abcdefgh", "z"]
abbrev anW : List Str := ["go", "aside", "go", "aside", "copy", "start", "mark", "close", "read", "write", "wait", "end"]
theorem anW_st : (anW.all fun w => memS stW w) = true := by decide +kernel
theorem anyev_ok {zs : List Str} (hn : n ≤ 100000) (hf : Feed n s) (hz : ∀ z ∈ zs, isNm z = true) (hl : zs.length = 5) : ∃ (d : D) (z : Str) (s' : SV), f_law_any_event [s, .d (.list (zs.map .str))] = .ok (.d d) [s', .unset] ∧ EvOk d z ∧ Feed (n + 6) s' := by
  have hsz : sizeLine = 16777216 := sizeLine_eq
  have out : ∀ {s1 : SV} {a b c e : SV} {d : D} {m : Nat}, Feed m s1 → s_law_any_event ([s, .d (.list (zs.map .str))] ++ List.replicate (6 - 2) .unset) = .rt (.d d) [s1, .d (.list (zs.map .str)), a, b, c, e] → f_law_any_event [s, .d (.list (zs.map .str))] = .ok (.d d) [s1, .unset] := fun {s1 a b c e d m} hs h => by
    refine (callS_rt (nn := 6) (svs := [s, .d (.list (zs.map .str))]) h).trans ?_
    show Res.ok _ [if s1.own = true then s1 else .unset, .unset] = _
    rw [if_pos hs.own]
  obtain ⟨kd, s1, a1, a2, a3⟩ := draw_at (m := eK (.int 5)) (i := 0) (e := [s, .d (.list (zs.map .str)), .unset, .unset, .unset, .unset]) (many := 5) draw_ok rfl hf (by omega) rfl (by decide) (by decide)
  have b1 : sSt (gN 2) (oToD (oCallN 2 f_law_draw [] (aaL 0 (aaV (eK (.int 5)) aaN)))) [s, .d (.list (zs.map .str)), .unset, .unset, .unset, .unset] = .nx [s1, .d (.list (zs.map .str)), .d (.int (kd : Nat)), .unset, .unset, .unset] := st_n (j := 2) (e1 := [s1, .d (.list (zs.map .str)), .unset, .unset, .unset, .unset]) a1
  have tk : ∀ (j : Int), tCm dEq (eV 2) (eK (.int j)) [s1, .d (.list (zs.map .str)), .d (.int (kd : Nat)), .unset, .unset, .unset] = .ok (((kd : Nat) : Int) == j) [s1, .d (.list (zs.map .str)), .d (.int (kd : Nat)), .unset, .unset, .unset] := fun j => tcm_ok (x := .int (kd : Nat)) (y := .int j) rfl rfl dEq_int
  have t0 := tk 0
  have t1 := tk 1
  by_cases h0 : kd = 0
  · subst h0
    obtain ⟨x, s2, c1, c2, c3⟩ := any_at (m := eL dLst (aCons (eK (.str "on")) (aCons (eK (.str "off")) aNil))) (i := 0) (e := [s1, .d (.list (zs.map .str)), .d (.int ((0 : Nat) : Int)), .unset, .unset, .unset]) (ds := caW.map .str) any_ok rfl a3 (by omega) rfl (by simp) (by simp)
    obtain ⟨w, w1, rfl⟩ := List.mem_map.mp c2
    refine ⟨_, ⟨(tl ("careful" : Str) ++ 32 :: tl w).toArray⟩, s2, out (a := .d (.int ((0 : Nat) : Int))) (b := .unset) (c := .unset) (e := .unset) c3 ((seq_nx b1).trans (seq_rt ((if_t t0).trans (rtD ?_)))), EvOk.wd (kind := "careful") (.inl ⟨rfl, ?_⟩) (mk_tl _), c3.mono (by omega)⟩
    · exact eL_ok (cons_ok (x := .str "careful") rfl (cons_ok c1 aN_ok)) rfl
    · unfold memS
      exact List.any_eq_true.mpr ⟨w, w1, beq_self_eq_true _⟩
  · have n0 : (((kd : Nat) : Int) == 0) = false := beq_false_of_ne (by omega)
    rw [n0] at t0
    have b2 := (seq_nx (h := (sSeq (sIf (tCm dEq (eV 2) (eK (.int 1))) (sRt (oD (eL dTup (aCons (eK (.str "mark")) (aCons (oToD (oCallN 2 f_law_any [] (aaL 0 (aaV (eOp2 dAdd (eV 1) (eL dLst (aCons (eK (.str "abcdefgh")) (aCons (eK (.str "z")) aNil)))) aaN)))) aNil))))) sNx) (sSeq (sSt (gN 3) (eL dLst (aCons (eK (.str "go")) (aCons (eK (.str "aside")) (aCons (eK (.str "go")) (aCons (eK (.str "aside")) (aCons (eK (.str "copy")) (aCons (eK (.str "start")) (aCons (eK (.str "mark")) (aCons (eK (.str "close")) (aCons (eK (.str "read")) (aCons (eK (.str "write")) (aCons (eK (.str "wait")) (aCons (eK (.str "end")) aNil)))))))))))))) (sSeq (sPar 4 5 (aCons (oToD (oCallN 2 f_law_any [] (aaL 0 (aaV (eV 3) aaN)))) (aCons (oToD (oCallN 2 f_law_draw [] (aaL 0 (aaV (eK (.int 12)) aaN)))) aNil))) (sSeq (sIf (tCm dEq (oToD (oCallN 2 f_law_draw [] (aaL 0 (aaV (eK (.int 9)) aaN)))) (eK (.int 0))) (sSt (gN 5) (eL dInt (aCons (eOp2 dAdd (eK (.str "1")) (eOp2 dMul (eK (.str "0")) (oToD (oCallN 2 f_law_draw [] (aaL 0 (aaV (eK (.int 60)) aaN)))))) aNil))) sNx) (sRt (oD (eL dTup (aCons (eK (.str "step")) (aCons (eL dTup (aCons (eV 5) (aCons (eV 4) (aCons (eIf (tCm dIn (eV 4) (eL dTup (aCons (eK (.str "go")) (aCons (eK (.str "aside")) aNil)))) (oToD (oCallN 2 f_law_any [] (aaL 0 (aaV (eL dLst (aCons (eK (.int 0)) (aCons (eK (.int 1)) (aCons (eK (.int 7)) (aCons (eK (.int 10)) (aCons (eOp2 dPow (eK (.int 10)) (eK (.int 59))) aNil)))))) aaN)))) (eOp1 dNeg (eK (.int 1)))) aNil)))) aNil))))))))) ) ((if_f (g := sRt (oD (eL dTup (aCons (eK (.str "careful")) (aCons (oToD (oCallN 2 f_law_any [] (aaL 0 (aaV (eL dLst (aCons (eK (.str "on")) (aCons (eK (.str "off")) aNil))) aaN)))) aNil))))) (h := sNx) t0).trans rfl))
    by_cases h1 : kd = 1
    · subst h1
      obtain ⟨x, s2, c1, c2, c3⟩ := any_at (m := eOp2 dAdd (eV 1) (eL dLst (aCons (eK (.str "abcdefgh")) (aCons (eK (.str "z")) aNil)))) (i := 0) (e := [s1, .d (.list (zs.map .str)), .d (.int ((1 : Nat) : Int)), .unset, .unset, .unset]) (ds := (zs ++ mkW).map .str) any_ok rfl a3 (by omega) (by
        refine op2_ok (x := .list (zs.map .str)) (y := .list [.str "abcdefgh", .str "z"]) rfl rfl ?_
        show (if (zs.map PyData.str).length + 2 ≤ sizeLine then some (PyData.list (zs.map PyData.str ++ [.str "abcdefgh", .str "z"])) else none) = _
        rw [if_pos (by rw [List.length_map]; omega), List.map_append]
        rfl) (by simp) (by simp; omega)
      obtain ⟨w, w1, rfl⟩ := List.mem_map.mp c2
      have hw : isNm w = true := by
        rcases List.mem_append.mp w1 with h | h
        · exact hz w h
        · simp only [List.mem_cons, List.not_mem_nil, or_false] at h
          rcases h with rfl | rfl <;> decide +kernel
      refine ⟨_, ⟨(tl ("mark" : Str) ++ 32 :: tl w).toArray⟩, s2, out (a := .d (.int ((1 : Nat) : Int))) (b := .unset) (c := .unset) (e := .unset) c3 ((seq_nx b1).trans (b2.trans (seq_rt ((if_t t1).trans (rtD ?_))))), EvOk.wd (kind := "mark") (.inr ⟨rfl, hw⟩) (mk_tl _), c3.mono (by omega)⟩
      exact eL_ok (cons_ok (x := .str "mark") rfl (cons_ok c1 aN_ok)) rfl
    · have n1 : (((kd : Nat) : Int) == 1) = false := beq_false_of_ne (by omega)
      rw [n1] at t1
      have b3 : sSt (gN 3) (eL dLst (aCons (eK (.str "go")) (aCons (eK (.str "aside")) (aCons (eK (.str "go")) (aCons (eK (.str "aside")) (aCons (eK (.str "copy")) (aCons (eK (.str "start")) (aCons (eK (.str "mark")) (aCons (eK (.str "close")) (aCons (eK (.str "read")) (aCons (eK (.str "write")) (aCons (eK (.str "wait")) (aCons (eK (.str "end")) aNil))))))))))))) [s1, .d (.list (zs.map .str)), .d (.int (kd : Nat)), .unset, .unset, .unset] = .nx [s1, .d (.list (zs.map .str)), .d (.int (kd : Nat)), .d (.list (anW.map .str)), .unset, .unset] := rfl
      obtain ⟨x, s2, c1, c2, c3⟩ := any_at (m := eV 3) (i := 0) (e := [s1, .d (.list (zs.map .str)), .d (.int (kd : Nat)), .d (.list (anW.map .str)), .unset, .unset]) (ds := anW.map .str) any_ok rfl a3 (by omega) rfl (by simp) (by simp)
      obtain ⟨w, w1, rfl⟩ := List.mem_map.mp c2
      have hst := List.all_eq_true.mp anW_st w w1
      have ho := mem_ok stW_all hst
      obtain ⟨k, s3, d1, d2, d3⟩ := draw_at (m := eK (.int 12)) (i := 0) (e := [s2, .d (.list (zs.map .str)), .d (.int (kd : Nat)), .d (.list (anW.map .str)), .unset, .unset]) (many := 12) draw_ok rfl c3 (by omega) rfl (by decide) (by decide)
      have b4 : sPar 4 5 (aCons (oToD (oCallN 2 f_law_any [] (aaL 0 (aaV (eV 3) aaN)))) (aCons (oToD (oCallN 2 f_law_draw [] (aaL 0 (aaV (eK (.int 12)) aaN)))) aNil)) [s1, .d (.list (zs.map .str)), .d (.int (kd : Nat)), .d (.list (anW.map .str)), .unset, .unset] = .nx [s3, .d (.list (zs.map .str)), .d (.int (kd : Nat)), .d (.list (anW.map .str)), .d (.str w), .d (.int (k : Nat))] := par_ok (e1 := [s3, .d (.list (zs.map .str)), .d (.int (kd : Nat)), .d (.list (anW.map .str)), .unset, .unset]) (cons_ok c1 (cons_ok d1 aN_ok))
      -- the number
      have b5 : ∃ (k2 : Nat) (s4 : SV) , sIf (tCm dEq (oToD (oCallN 2 f_law_draw [] (aaL 0 (aaV (eK (.int 9)) aaN)))) (eK (.int 0))) (sSt (gN 5) (eL dInt (aCons (eOp2 dAdd (eK (.str "1")) (eOp2 dMul (eK (.str "0")) (oToD (oCallN 2 f_law_draw [] (aaL 0 (aaV (eK (.int 60)) aaN)))))) aNil))) sNx [s3, .d (.list (zs.map .str)), .d (.int (kd : Nat)), .d (.list (anW.map .str)), .d (.str w), .d (.int (k : Nat))] = .nx [s4, .d (.list (zs.map .str)), .d (.int (kd : Nat)), .d (.list (anW.map .str)), .d (.str w), .d (.int (k2 : Nat))] ∧ k2 < 10 ^ 60 ∧ Feed (n + 5) s4 := by
        obtain ⟨p, s4, e1, e2, e3⟩ := draw_at (m := eK (.int 9)) (i := 0) (e := [s3, .d (.list (zs.map .str)), .d (.int (kd : Nat)), .d (.list (anW.map .str)), .d (.str w), .d (.int (k : Nat))]) (many := 9) draw_ok rfl d3 (by omega) rfl (by decide) (by decide)
        have t : tCm dEq (oToD (oCallN 2 f_law_draw [] (aaL 0 (aaV (eK (.int 9)) aaN)))) (eK (.int 0)) [s3, .d (.list (zs.map .str)), .d (.int (kd : Nat)), .d (.list (anW.map .str)), .d (.str w), .d (.int (k : Nat))] = .ok (((p : Nat) : Int) == 0) [s4, .d (.list (zs.map .str)), .d (.int (kd : Nat)), .d (.list (anW.map .str)), .d (.str w), .d (.int (k : Nat))] := tcm_ok (y := .int 0) e1 rfl dEq_int
        by_cases hp : p = 0
        · subst hp
          obtain ⟨j, s5, f1, f2, f3⟩ := draw_at (m := eK (.int 60)) (i := 0) (e := [s4, .d (.list (zs.map .str)), .d (.int (kd : Nat)), .d (.list (anW.map .str)), .d (.str w), .d (.int (k : Nat))]) (many := 60) draw_ok rfl e3 (by omega) rfl (by decide) (by decide)
          obtain ⟨a, b, k2, g1, g2, g3, g4⟩ := ten_ok f2
          rw [tenT_eq] at g4
          refine ⟨k2, s5, (if_t t).trans (st_n (j := 5) (e1 := [s5, .d (.list (zs.map .str)), .d (.int (kd : Nat)), .d (.list (anW.map .str)), .d (.str w), .d (.int (k : Nat))]) ?_), g4, f3.mono (by omega)⟩
          exact eL1 (op2_ok (x := .str "1") rfl (op2_ok (x := .str "0") rfl f1 g1) g2) g3
        · rw [show (((p : Nat) : Int) == 0) = false from beq_false_of_ne (by omega)] at t
          exact ⟨k, s4, (if_f t).trans rfl, Nat.lt_of_lt_of_le d2 (by decide +kernel), e3.mono (by omega)⟩
      obtain ⟨k2, s4, b5, hk2, hf4⟩ := b5
      have pre : ∀ {d : D} {E : Env}, sRt (oD (eL dTup (aCons (eK (.str "step")) (aCons (eL dTup (aCons (eV 5) (aCons (eV 4) (aCons (eIf (tCm dIn (eV 4) (eL dTup (aCons (eK (.str "go")) (aCons (eK (.str "aside")) aNil)))) (oToD (oCallN 2 f_law_any [] (aaL 0 (aaV (eL dLst (aCons (eK (.int 0)) (aCons (eK (.int 1)) (aCons (eK (.int 7)) (aCons (eK (.int 10)) (aCons (eOp2 dPow (eK (.int 10)) (eK (.int 59))) aNil)))))) aaN)))) (eOp1 dNeg (eK (.int 1)))) aNil)))) aNil)))) [s4, .d (.list (zs.map .str)), .d (.int (kd : Nat)), .d (.list (anW.map .str)), .d (.str w), .d (.int (k2 : Nat))] = .rt (.d d) E → s_law_any_event ([s, .d (.list (zs.map .str))] ++ List.replicate (6 - 2) .unset) = .rt (.d d) E := fun {d E} h =>
        (seq_nx b1).trans (b2.trans ((seq_nx (g := sIf _ _ _) ((if_f t1).trans rfl)).trans ((seq_nx b3).trans ((seq_nx b4).trans ((seq_nx b5).trans h)))))
      have ti : tCm dIn (eV 4) (eL dTup (aCons (eK (.str "go")) (aCons (eK (.str "aside")) aNil))) [s4, .d (.list (zs.map .str)), .d (.int (kd : Nat)), .d (.list (anW.map .str)), .d (.str w), .d (.int (k2 : Nat))] = .ok (memS goW w) [s4, .d (.list (zs.map .str)), .d (.int (kd : Nat)), .d (.list (anW.map .str)), .d (.str w), .d (.int (k2 : Nat))] := tcm_ok (x := .str w) (y := .tuple (goW.map .str)) rfl rfl (dIn_tup ho goW_ok)
      cases hg : memS goW w with
      | true =>
        rw [hg] at ti
        obtain ⟨x, s5, f1, f2, f3⟩ := any_at (m := eL dLst (aCons (eK (.int 0)) (aCons (eK (.int 1)) (aCons (eK (.int 7)) (aCons (eK (.int 10)) (aCons (eOp2 dPow (eK (.int 10)) (eK (.int 59))) aNil)))))) (i := 0) (e := [s4, .d (.list (zs.map .str)), .d (.int (kd : Nat)), .d (.list (anW.map .str)), .d (.str w), .d (.int (k2 : Nat))]) (ds := [.int 0, .int 1, .int 7, .int 10, .int (10 ^ 59)]) any_ok rfl hf4 (by omega) rfl (by simp) (by simp)
        obtain ⟨m, rfl, hm⟩ : ∃ m : Nat, x = .int (m : Nat) ∧ m < 10 ^ 60 := by
          simp only [List.mem_cons, List.not_mem_nil, or_false] at f2
          rcases f2 with rfl | rfl | rfl | rfl | rfl
          · exact ⟨0, rfl, by decide +kernel⟩
          · exact ⟨1, rfl, by decide +kernel⟩
          · exact ⟨7, rfl, by decide +kernel⟩
          · exact ⟨10, rfl, by decide +kernel⟩
          · exact ⟨10 ^ 59, by congr 1, by decide +kernel⟩
        refine ⟨_, ⟨(stL ++ 32 :: (numL k2 ++ 32 :: (tl w ++ 32 :: numL m))).toArray⟩, s5, out (a := .d (.int (kd : Nat))) (b := .d (.list (anW.map .str))) (c := .d (.str w)) (e := .d (.int (k2 : Nat))) f3 (pre (rtD ?_)), EvOk.go hg hk2 hm (mk_tl _), f3⟩
        exact eL_ok (cons_ok (x := .str "step") rfl (cons_ok (eL_ok (cons_ok (x := .int (k2 : Nat)) rfl (cons_ok (x := .str w) rfl (cons_ok ((eif_t ti).trans f1) aN_ok))) rfl) aN_ok)) rfl
      | false =>
        rw [hg] at ti
        refine ⟨_, ⟨(stL ++ 32 :: (numL k2 ++ 32 :: tl w)).toArray⟩, s4, out (a := .d (.int (kd : Nat))) (b := .d (.list (anW.map .str))) (c := .d (.str w)) (e := .d (.int (k2 : Nat))) hf4 (pre (rtD ?_)), EvOk.st hst hg hk2 (mk_tl _), hf4.mono (by omega)⟩
        exact eL_ok (cons_ok (x := .str "step") rfl (cons_ok (eL_ok (cons_ok (x := .int (k2 : Nat)) rfl (cons_ok (x := .str w) rfl (cons_ok ((eif_f ti).trans rfl) aN_ok))) rfl) aN_ok)) rfl
end
end VL

set_option Elab.async false
set_option autoImplicit false
set_option linter.all false
set_option maxRecDepth 100000
set_option maxHeartbeats 4000000
set_option exponentiation.threshold 3000
/-! K72h: the plain law of k72: bent texts. -/
namespace VL
open PySem TL
section
variable {n : Nat} {s : SV} {d : D} {z : Str}
/-- a row of texts: their signs fit, their lengths in all, how many -/
structure TxR (zs : List Str) (a b : Nat) : Prop where
  ok : ∀ z ∈ zs, PyData.strOk z = true
  su : (zs.map (·.length)).sum ≤ a
  le : zs.length ≤ b
theorem sum_drop (xs : List Nat) (k : Nat) : (xs.drop k).sum ≤ xs.sum := by
  have := congrArg List.sum (List.take_append_drop k xs)
  rw [List.sum_append] at this
  omega
theorem sum_take (xs : List Nat) (k : Nat) : (xs.take k).sum ≤ xs.sum := by
  have := congrArg List.sum (List.take_append_drop k xs)
  rw [List.sum_append] at this
  omega
theorem TxR.cut {zs : List Str} {a b : Nat} (h : TxR zs a b) (lo hi : Option Int) : TxR (cutG zs lo hi) a b := by
  refine ⟨fun z hz => h.ok z (cutG_mem hz), ?_, Nat.le_trans (cutG_len _ _ _) h.le⟩
  unfold cutG
  rw [List.map_take, List.map_drop]
  exact Nat.le_trans (Nat.le_trans (sum_take _ _) (sum_drop _ _)) h.su
theorem TxR.app {xs ys : List Str} {a b c e : Nat} (h : TxR xs a b) (k : TxR ys c e) : TxR (xs ++ ys) (a + c) (b + e) := by
  refine ⟨fun z hz => (List.mem_append.mp hz).elim (h.ok z) (k.ok z), ?_, ?_⟩
  · rw [List.map_append, List.sum_append]; exact Nat.add_le_add h.su k.su
  · rw [List.length_append]; exact Nat.add_le_add h.le k.le
theorem TxR.one {z : Str} (h : PyData.strOk z = true) {a : Nat} (hl : z.length ≤ a) : TxR [z] a 1 := ⟨fun u hu => by rw [List.mem_singleton.mp hu]; exact h, by simpa using hl, by simp⟩
theorem spl_row {z : Str} (h : POk z) : TxR (spl z) (z.length + 1) (z.length + 2) := by
  have a : ((spl z).map (·.length)).sum + (spl z).length ≤ z.length + 1 := PyProof.Rows.split_weight z " " (by decide +kernel)
  exact ⟨fun w hw => spl_str h.1 hw, by omega, PyProof.Rows.split_le _ _⟩
theorem strOk_app {a b : Str} (ha : PyData.strOk a = true) (hb : PyData.strOk b = true) : PyData.strOk (a ++ b) = true := by
  rw [strOk_iff] at *
  intro c hc
  rw [tl_append] at hc
  exact (List.mem_append.mp hc).elim (ha c) (hb c)
theorem strOk_join {sep : Str} (hs : PyData.strOk sep = true) : ∀ zs : List Str, (∀ z ∈ zs, PyData.strOk z = true) → PyData.strOk (Str.join sep zs) = true
  | [], _ => by show PyData.strOk Str.empty = true; decide +kernel
  | [x], h => h x (List.mem_singleton.mpr rfl)
  | x :: y :: r, h => strOk_app (strOk_app (h x (List.mem_cons_self ..)) hs) (strOk_join hs (y :: r) fun z hz => h z (List.mem_cons_of_mem _ hz))
theorem unStrs_map : ∀ zs : List Str, unStrs (zs.map PyData.str) = some zs
  | [] => rfl
  | z :: r => by
    show (unStrs (r.map PyData.str)).map (z :: ·) = _
    rw [unStrs_map r]; rfl
theorem join_ok {zs : List Str} {a b : Nat} (h : TxR zs a b) (ha : a + b ≤ 1000000) : ∃ t, dJoin (.str " ") [.list (zs.map .str)] = some (.str t) ∧ PyData.strOk t = true ∧ t.length ≤ a + b := by
  have l1 : (" " : Str).length = 1 := by decide +kernel
  have j := StrLaws.join_length_le " " zs
  have h1 := h.su
  have h2 := h.le
  rw [l1] at j
  have eq : Txt.join " " zs = Str.join " " zs := StrLaws.glued_eq_join _ _
  refine ⟨Str.join " " zs, ?_, strOk_join (by decide +kernel) zs h.ok, by omega⟩
  show dJoinL " " (zs.map .str) = _
  unfold dJoinL
  rw [unStrs_map]
  simp only
  rw [if_pos (by rw [l1]; omega), eq]
theorem addL {xs ys : List Str} {a b c e : Nat} (h : TxR xs a b) (k : TxR ys c e) (hb : b + e ≤ 1000000) : dAdd (.list (xs.map .str)) (.list (ys.map .str)) = some (.list ((xs ++ ys).map .str)) := by
  have hz : sizeLine = 16777216 := sizeLine_eq
  have h1 := h.le
  have h2 := k.le
  show (if (xs.map PyData.str).length + (ys.map PyData.str).length ≤ sizeLine then some (PyData.list (xs.map PyData.str ++ ys.map PyData.str)) else none) = _
  rw [if_pos (by rw [List.length_map, List.length_map]; omega), List.map_append]
theorem slL {xs : List Str} (lo hi : Option Int) : dSl (.list (xs.map .str)) lo hi = some (.list ((cutG xs lo hi).map .str)) := by
  show some (PyData.list (cutG (xs.map PyData.str) lo hi)) = _
  rw [cutG_map]
theorem cutS_ok {z : Str} (h : PyData.strOk z = true) (lo hi : Option Int) : PyData.strOk (L2.cutS z lo hi) = true ∧ (L2.cutS z lo hi).length ≤ z.length := by
  constructor
  · rw [strOk_iff] at *
    intro c hc
    exact h c (List.mem_of_mem_drop (List.mem_of_mem_take hc))
  · rw [len_tl, len_tl]
    show ((List.take _ (List.drop _ (tl z))) : List Nat).length ≤ _
    rw [List.length_take, List.length_drop]
    omega
theorem sl_ok {F : Md D} {lo hi : Md (Option Int)} {e e1 e2 e3 : Env} {x y : D} {a b : Option Int} (H : F e = .ok x e1) (H1 : lo e1 = .ok a e2) (H2 : hi e2 = .ok b e3) (G : dSl x a b = some y) : eSl F lo hi e = .ok y e3 := by
  unfold eSl
  refine (bnd_ok H).trans ((bnd_ok H1).trans ((bnd_ok H2).trans ?_))
  rw [G]; rfl
theorem pc_ok {F : Md D} {e e1 : Env} {i : Int} (H : F e = .ok (.int i) e1) : pcS F e = .ok (some i) e1 := by
  unfold pcS
  exact (bnd_ok H).trans rfl
abbrev oddW : List Str := ["", "0", "00", "01", "a", "abcdefgh", "abcdefghi", "go", "copy", "stay", "end", "on", "off", "mark", "r", "step", "careful", "-1", "100000000000000000000000000000000000000000000000000000000000", "1000000000000000000000000000000000000000000000000000000000000", "A", "open", "1,2", "2,1", "w"]
abbrev sigW : List Str := ["0", "1", "a", "z", " ", "-", ",", "A", "~", "!"]
theorem odd_all : (oddW.all fun z => PyData.strOk z && decide (z.length ≤ 61)) = true := by decide +kernel
theorem sig_all : (sigW.all fun z => PyData.strOk z && decide (z.length ≤ 1)) = true := by decide +kernel
abbrev b9 (s : SV) (z : Str) (ws k a o v : SV) (od sg : SV) : Env := [s, .d (.str z), ws, k, a, o, v, od, sg]
end
end VL
namespace VL
open PySem TL
section
variable {n : Nat} {s : SV} {d : D} {z : Str}
theorem bent_ok (hn : n ≤ 100000) (hf : Feed n s) (hz : POk z) (hl : z.length ≤ 10000) : ∃ (t : Str) (s' : SV), f_law_bent_text [s, .d (.str z)] = .ok (.d (.str t)) [s', .unset] ∧ PyData.strOk t = true ∧ t.length ≤ 4 * z.length + 300 ∧ Feed (n + 5) s' := by
  have hsz : sizeLine = 16777216 := sizeLine_eq
  have row := spl_row hz
  have hl1 : 1 ≤ (spl z).length := PyProof.Rows.split_pos _ _
  have out : ∀ {s1 : SV} {r : Env} {d : D} {m : Nat}, Feed m s1 → s_law_bent_text [s, .d (.str z), .unset, .unset, .unset, .unset, .unset, .unset, .unset] = .rt (.d d) (s1 :: .d (.str z) :: r) → f_law_bent_text [s, .d (.str z)] = .ok (.d d) [s1, .unset] := fun {s1 r d m} hs h => by
    refine (callS_rt (nn := 9) (svs := [s, .d (.str z)]) h).trans ?_
    show Res.ok _ [if s1.own = true then s1 else .unset, .unset] = _
    rw [if_pos hs.own]
  obtain ⟨way, s1, a1, a2, a3⟩ := draw_at (m := eK (.int 9)) (i := 0) (e := b9 s z .unset .unset .unset .unset .unset .unset .unset) (many := 9) draw_ok rfl hf (by omega) rfl (by decide) (by decide)
  have lz : ∀ s', eOp2 dAdd (eL dLen (aCons (eV 1) aNil)) (eK (.int 1)) (b9 s' z .unset .unset .unset .unset .unset .unset .unset) = .ok (.int ((z.length + 1 : Nat) : Int)) (b9 s' z .unset .unset .unset .unset .unset .unset .unset) := fun s' => op2_ok (x := .int (z.length : Nat)) (y := .int 1) (eL1 (x := .str z) rfl (dLen_str (by omega))) rfl rfl
  obtain ⟨k, s2, b1, b2, b3⟩ := draw_at (m := eOp2 dAdd (eL dLen (aCons (eV 1) aNil)) (eK (.int 1))) (i := 0) (e := b9 s1 z .unset .unset .unset .unset .unset .unset .unset) (many := z.length + 1) draw_ok rfl a3 (by omega) (lz _) (by omega) (by omega)
  have q1 : sPar3 2 3 4 (aCons (eMs dSplit (eV 1) (aCons (eK (.str " ")) aNil)) (aCons (oToD (oCallN 2 f_law_draw [] (aaL 0 (aaV (eK (.int 9)) aaN)))) (aCons (oToD (oCallN 2 f_law_draw [] (aaL 0 (aaV (eOp2 dAdd (eL dLen (aCons (eV 1) aNil)) (eK (.int 1))) aaN)))) aNil))) (b9 s z .unset .unset .unset .unset .unset .unset .unset) = .nx (b9 s2 z (.d (.list ((spl z).map .str))) (.d (.int (way : Nat))) (.d (.int (k : Nat))) .unset .unset .unset .unset) :=
    par3_ok (e1 := b9 s2 z .unset .unset .unset .unset .unset .unset .unset) (cons_ok (ms_ok (x := .str z) rfl rfl rfl (dSplit_ok hz.2)) (cons_ok a1 (cons_ok b1 aN_ok)))
  have lw : ∀ s', eL dLen (aCons (eV 2) aNil) (b9 s' z (.d (.list ((spl z).map .str))) (.d (.int (way : Nat))) (.d (.int (k : Nat))) .unset .unset .unset .unset) = .ok (.int ((spl z).length : Nat)) (b9 s' z (.d (.list ((spl z).map .str))) (.d (.int (way : Nat))) (.d (.int (k : Nat))) .unset .unset .unset .unset) := fun s' => eL1 (x := .list ((spl z).map .str)) rfl (by show some (PyData.int _) = _; simp)
  have hle := row.le
  obtain ⟨p, s3, c1, c2, c3⟩ := draw_at (m := eL dLen (aCons (eV 2) aNil)) (i := 0) (e := b9 s2 z (.d (.list ((spl z).map .str))) (.d (.int (way : Nat))) (.d (.int (k : Nat))) .unset .unset .unset .unset) (many := (spl z).length) draw_ok rfl b3 (by omega) (lw _) (by omega) (by omega)
  have q2 : sSt (gN 5) (oToD (oCallN 2 f_law_draw [] (aaL 0 (aaV (eL dLen (aCons (eV 2) aNil)) aaN)))) (b9 s2 z (.d (.list ((spl z).map .str))) (.d (.int (way : Nat))) (.d (.int (k : Nat))) .unset .unset .unset .unset) = .nx (b9 s3 z (.d (.list ((spl z).map .str))) (.d (.int (way : Nat))) (.d (.int (k : Nat))) (.d (.int (p : Nat))) .unset .unset .unset) := st_n (j := 5) (e1 := b9 s3 z (.d (.list ((spl z).map .str))) (.d (.int (way : Nat))) (.d (.int (k : Nat))) .unset .unset .unset .unset) c1
  have q3 : ∀ rest, (sSeq (sSt (gN 6) (eL dLst (aCons (eK (.str "")) (aCons (eK (.str "0")) (aCons (eK (.str "00")) (aCons (eK (.str "01")) (aCons (eK (.str "a")) (aCons (eK (.str "abcdefgh")) (aCons (eK (.str "abcdefghi")) (aCons (eK (.str "go")) (aCons (eK (.str "copy")) (aCons (eK (.str "stay")) (aCons (eK (.str "end")) (aCons (eK (.str "on")) (aCons (eK (.str "off")) (aCons (eK (.str "mark")) (aCons (eK (.str "r")) aNil))))))))))))))))) (sSeq (sSt (gN 6) (eOp2 dAdd (eV 6) (eL dLst (aCons (eK (.str "step")) (aCons (eK (.str "careful")) (aCons (eK (.str "-1")) (aCons (eOp2 dAdd (eK (.str "1")) (eOp2 dMul (eK (.str "0")) (eK (.int 59)))) (aCons (eOp2 dAdd (eK (.str "1")) (eOp2 dMul (eK (.str "0")) (eK (.int 60)))) (aCons (eK (.str "A")) (aCons (eK (.str "open")) (aCons (eK (.str "1,2")) (aCons (eK (.str "2,1")) (aCons (eK (.str "w")) aNil))))))))))))) rest)) (b9 s3 z (.d (.list ((spl z).map .str))) (.d (.int (way : Nat))) (.d (.int (k : Nat))) (.d (.int (p : Nat))) .unset .unset .unset) = rest (b9 s3 z (.d (.list ((spl z).map .str))) (.d (.int (way : Nat))) (.d (.int (k : Nat))) (.d (.int (p : Nat))) (.d (.list (oddW.map .str))) .unset .unset) := fun rest => rfl
  obtain ⟨x, s4, d1, d2, d3⟩ := any_at (m := eV 6) (i := 0) (e := b9 s3 z (.d (.list ((spl z).map .str))) (.d (.int (way : Nat))) (.d (.int (k : Nat))) (.d (.int (p : Nat))) (.d (.list (oddW.map .str))) .unset .unset) (ds := oddW.map .str) any_ok rfl c3 (by omega) rfl (by simp) (by simp)
  obtain ⟨od, o1, rfl⟩ := List.mem_map.mp d2
  obtain ⟨o2, o3⟩ := Bool.and_eq_true_iff.mp (List.all_eq_true.mp odd_all od o1)
  have o3 := of_decide_eq_true o3
  generalize hE : b9 s4 z (.d (.list ((spl z).map .str))) (.d (.int (way : Nat))) (.d (.int (k : Nat))) (.d (.int (p : Nat))) (.d (.list (oddW.map .str))) (.d (.str od)) .unset = E
  have v1 : eV 1 E = .ok (.str z) E := by subst hE; rfl
  have v2 : eV 2 E = .ok (.list ((spl z).map .str)) E := by subst hE; rfl
  have v3 : eV 3 E = .ok (.int (way : Nat)) E := by subst hE; rfl
  have v4 : eV 4 E = .ok (.int (k : Nat)) E := by subst hE; rfl
  have v5 : eV 5 E = .ok (.int (p : Nat)) E := by subst hE; rfl
  have v7 : eV 7 E = .ok (.str od) E := by subst hE; rfl
  have q4 : sSt (gN 7) (oToD (oCallN 2 f_law_any [] (aaL 0 (aaV (eV 6) aaN)))) (b9 s3 z (.d (.list ((spl z).map .str))) (.d (.int (way : Nat))) (.d (.int (k : Nat))) (.d (.int (p : Nat))) (.d (.list (oddW.map .str))) .unset .unset) = .nx E := by subst hE; exact st_n (j := 7) (e1 := b9 s4 z (.d (.list ((spl z).map .str))) (.d (.int (way : Nat))) (.d (.int (k : Nat))) (.d (.int (p : Nat))) (.d (.list (oddW.map .str))) .unset .unset) d1
  have pre : ∀ rest r, rest E = r → sSeq (sPar3 2 3 4 (aCons (eMs dSplit (eV 1) (aCons (eK (.str " ")) aNil)) (aCons (oToD (oCallN 2 f_law_draw [] (aaL 0 (aaV (eK (.int 9)) aaN)))) (aCons (oToD (oCallN 2 f_law_draw [] (aaL 0 (aaV (eOp2 dAdd (eL dLen (aCons (eV 1) aNil)) (eK (.int 1))) aaN)))) aNil)))) (sSeq (sSt (gN 5) (oToD (oCallN 2 f_law_draw [] (aaL 0 (aaV (eL dLen (aCons (eV 2) aNil)) aaN))))) (sSeq (sSt (gN 6) (eL dLst (aCons (eK (.str "")) (aCons (eK (.str "0")) (aCons (eK (.str "00")) (aCons (eK (.str "01")) (aCons (eK (.str "a")) (aCons (eK (.str "abcdefgh")) (aCons (eK (.str "abcdefghi")) (aCons (eK (.str "go")) (aCons (eK (.str "copy")) (aCons (eK (.str "stay")) (aCons (eK (.str "end")) (aCons (eK (.str "on")) (aCons (eK (.str "off")) (aCons (eK (.str "mark")) (aCons (eK (.str "r")) aNil))))))))))))))))) (sSeq (sSt (gN 6) (eOp2 dAdd (eV 6) (eL dLst (aCons (eK (.str "step")) (aCons (eK (.str "careful")) (aCons (eK (.str "-1")) (aCons (eOp2 dAdd (eK (.str "1")) (eOp2 dMul (eK (.str "0")) (eK (.int 59)))) (aCons (eOp2 dAdd (eK (.str "1")) (eOp2 dMul (eK (.str "0")) (eK (.int 60)))) (aCons (eK (.str "A")) (aCons (eK (.str "open")) (aCons (eK (.str "1,2")) (aCons (eK (.str "2,1")) (aCons (eK (.str "w")) aNil))))))))))))) (sSeq (sSt (gN 7) (oToD (oCallN 2 f_law_any [] (aaL 0 (aaV (eV 6) aaN))))) rest)))) [s, .d (.str z), .unset, .unset, .unset, .unset, .unset, .unset, .unset] = r := fun rest r h =>
    (seq_nx q1).trans ((seq_nx q2).trans ((q3 _).trans ((seq_nx q4).trans h)))
  -- the ways that join words
  have cut : ∀ (lo hi : Md (Option Int)) (a b : Option Int), lo E = .ok a E → hi E = .ok b E → eSl (eV 2) lo hi E = .ok (.list ((cutG (spl z) a b).map .str)) E := fun lo hi a b h1 h2 => sl_ok v2 h1 h2 (slL a b)
  have hi5 : pcS (eV 5) E = .ok (some (p : Nat)) E := pc_ok v5
  have add5 : ∀ (m : Md D) (j : Int), m E = .ok (.int j) E → pcS (eOp2 dAdd (eV 5) m) E = .ok (some ((p : Nat) + j)) E := fun m j hm => pc_ok (op2_ok v5 hm rfl)
  have no : pcN E = .ok none E := rfl
  have tw : ∀ j : Int, tCm dEq (eV 3) (eK (.int j)) E = .ok (((way : Nat) : Int) == j) E := fun j => tcm_ok v3 rfl dEq_int
  have tl2 : tCm dLt (eV 3) (eK (.int 2)) E = .ok (decide (((way : Nat) : Int) < 2)) E := tcm_ok v3 rfl rfl
  have joined : ∀ (m : Md D) (zs : List Str) (a b : Nat), m E = .ok (.list (zs.map .str)) E → TxR zs a b → a + b ≤ 1000000 → ∃ t, eMs dJoin (eK (.str " ")) (aCons m aNil) E = .ok (.str t) E ∧ PyData.strOk t = true ∧ t.length ≤ a + b := fun m zs a b hm ht hab => by
    obtain ⟨t, t1, t2, t3⟩ := join_ok ht hab
    exact ⟨t, ms_ok (x := .str " ") rfl rfl (cons_ok hm aN_ok) t1, t2, t3⟩
  have fin : ∀ (t : Str) (rest : Sm), PyData.strOk t = true → t.length ≤ 4 * z.length + 300 → s_law_bent_text [s, .d (.str z), .unset, .unset, .unset, .unset, .unset, .unset, .unset] = .rt (.d (.str t)) E → ∃ (t : Str) (s' : SV), f_law_bent_text [s, .d (.str z)] = .ok (.d (.str t)) [s', .unset] ∧ PyData.strOk t = true ∧ t.length ≤ 4 * z.length + 300 ∧ Feed (n + 5) s' := fun t rest h1 h2 h3 => by
    subst hE
    exact ⟨t, s4, out d3 h3, h1, h2, d3.mono (by omega)⟩
  by_cases w2 : way < 2
  · rw [decide_eq_true (by omega)] at tl2
    obtain ⟨t, t1, t2, t3⟩ := joined (eOp2 dAdd (eOp2 dAdd (eSl (eV 2) pcN (pcS (eV 5))) (eL dLst (aCons (eV 7) aNil))) (eSl (eV 2) (pcS (eOp2 dAdd (eV 5) (eV 3))) pcN)) _ _ _ (op2_ok (op2_ok (cut _ _ _ _ no hi5) (eL1 v7 rfl) (addL (xs := cutG (spl z) none (some (p : Nat))) (ys := [od]) (row.cut _ _) (TxR.one o2 o3) (by omega))) (cut _ _ _ _ (add5 _ _ v3) no) (addL ((row.cut _ _).app (TxR.one o2 o3)) (row.cut (some ((p : Nat) + (way : Nat))) none) (by omega))) (((row.cut none (some (p : Nat))).app (TxR.one o2 o3)).app (row.cut (some ((p : Nat) + (way : Nat))) none)) (by omega)
    exact fin t sNx t2 (by omega) (pre _ _ (seq_rt ((if_t tl2).trans (rtD t1))))
  · rw [decide_eq_false (by omega)] at tl2
    have s1' := fun g => if_f (g := g) (h := sNx) tl2
    by_cases w3 : way = 2
    · have t := tw 2
      rw [show (((way : Nat) : Int) == 2) = true by rw [w3]; rfl] at t
      obtain ⟨tt, t1, t2, t3⟩ := joined (eOp2 dAdd (eSl (eV 2) pcN (pcS (eV 5))) (eSl (eV 2) (pcS (eOp2 dAdd (eV 5) (eK (.int 1)))) pcN)) _ _ _ (op2_ok (cut _ _ _ _ no hi5) (cut _ _ _ _ (add5 _ 1 rfl) no) (addL (row.cut none (some (p : Nat))) (row.cut (some ((p : Nat) + 1)) none) (by omega))) ((row.cut none (some (p : Nat))).app (row.cut (some ((p : Nat) + 1)) none)) (by omega)
      exact fin tt sNx t2 (by omega) (pre _ _ ((seq_nx ((s1' _).trans rfl)).trans (seq_rt ((if_t t).trans (rtD t1)))))
    · have e2 := tw 2
      rw [show (((way : Nat) : Int) == 2) = false from beq_false_of_ne (by omega)] at e2
      by_cases w4 : way = 3
      · have t := tw 3
        rw [show (((way : Nat) : Int) == 3) = true by rw [w4]; rfl] at t
        obtain ⟨tt, t1, t2, t3⟩ := joined (eOp2 dAdd (eSl (eV 2) pcN (pcS (eOp2 dAdd (eV 5) (eK (.int 1))))) (eSl (eV 2) (pcS (eV 5)) pcN)) _ _ _ (op2_ok (cut _ _ _ _ no (add5 _ 1 rfl)) (cut _ _ _ _ hi5 no) (addL (row.cut none (some ((p : Nat) + 1))) (row.cut (some (p : Nat)) none) (by omega))) ((row.cut none (some ((p : Nat) + 1))).app (row.cut (some (p : Nat)) none)) (by omega)
        exact fin tt sNx t2 (by omega) (pre _ _ ((seq_nx ((s1' _).trans rfl)).trans ((seq_nx ((if_f (h := sNx) e2).trans rfl)).trans (seq_rt ((if_t t).trans (rtD t1))))))
      · have e3 := tw 3
        rw [show (((way : Nat) : Int) == 3) = false from beq_false_of_ne (by omega)] at e3
        by_cases w5 : way = 4
        · have t := tw 4
          rw [show (((way : Nat) : Int) == 4) = true by rw [w5]; rfl] at t
          obtain ⟨tt, t1, t2, t3⟩ := joined (eSl (eV 2) pcN (pcS (eV 5))) _ _ _ (cut _ _ _ _ no hi5) (row.cut none (some (p : Nat))) (by omega)
          exact fin tt sNx t2 (by omega) (pre _ _ ((seq_nx ((s1' _).trans rfl)).trans ((seq_nx ((if_f (h := sNx) e2).trans rfl)).trans ((seq_nx ((if_f (h := sNx) e3).trans rfl)).trans (seq_rt ((if_t t).trans (rtD t1)))))))
        · have e4 := tw 4
          rw [show (((way : Nat) : Int) == 4) = false from beq_false_of_ne (by omega)] at e4
          -- a sign
          obtain ⟨x, s5, f1, f2, f3⟩ := any_at (m := eL dLst (aCons (eK (.str "0")) (aCons (eK (.str "1")) (aCons (eK (.str "a")) (aCons (eK (.str "z")) (aCons (eK (.str " ")) (aCons (eK (.str "-")) (aCons (eK (.str ",")) (aCons (eK (.str "A")) (aCons (eK (.str "~")) (aCons (eK (.str "!")) aNil))))))))))) (i := 0) (e := E) (ds := sigW.map .str) any_ok (by subst hE; rfl) d3 (by omega) rfl (by simp) (by simp)
          obtain ⟨sg, g1, rfl⟩ := List.mem_map.mp f2
          obtain ⟨g2, g3⟩ := Bool.and_eq_true_iff.mp (List.all_eq_true.mp sig_all sg g1)
          have g3 := of_decide_eq_true g3
          have q8 := st_n (j := 8) f1
          have e8 : (E.set 0 s5).set 8 (.d (.str sg)) = b9 s5 z (.d (.list ((spl z).map .str))) (.d (.int (way : Nat))) (.d (.int (k : Nat))) (.d (.int (p : Nat))) (.d (.list (oddW.map .str))) (.d (.str od)) (.d (.str sg)) := by subst hE; rfl
          rw [e8] at q8
          generalize hF : b9 s5 z (.d (.list ((spl z).map .str))) (.d (.int (way : Nat))) (.d (.int (k : Nat))) (.d (.int (p : Nat))) (.d (.list (oddW.map .str))) (.d (.str od)) (.d (.str sg)) = F at q8
          have u1 : eV 1 F = .ok (.str z) F := by subst hF; rfl
          have u3 : eV 3 F = .ok (.int (way : Nat)) F := by subst hF; rfl
          have u4 : eV 4 F = .ok (.int (k : Nat)) F := by subst hF; rfl
          have u8 : eV 8 F = .ok (.str sg) F := by subst hF; rfl
          have c1 : eSl (eV 1) pcN (pcS (eV 4)) F = .ok (.str (L2.cutS z none (some (k : Nat)))) F := sl_ok u1 rfl (pc_ok u4) (if_pos (by omega))
          have tg : tCm dLt (eV 3) (eK (.int 8)) F = .ok (decide (((way : Nat) : Int) < 8)) F := tcm_ok u3 rfl rfl
          obtain ⟨mid, m1, m2, m3⟩ : ∃ mid : Str, eIf (tCm dLt (eV 3) (eK (.int 8))) (eV 8) (eK (.str "")) F = .ok (.str mid) F ∧ PyData.strOk mid = true ∧ mid.length ≤ 1 := by
            by_cases h8 : way < 8
            · rw [decide_eq_true (by omega)] at tg
              exact ⟨sg, (eif_t tg).trans u8, g2, g3⟩
            · rw [decide_eq_false (by omega)] at tg
              exact ⟨"", (eif_f tg).trans rfl, by decide +kernel, by decide +kernel⟩
          obtain ⟨j, c2⟩ : ∃ j, eSl (eV 1) (pcS (eOp2 dAdd (eV 4) (eL dInt (aCons (eOp2 dGt (eV 3) (eK (.int 6))) aNil)))) pcN F = .ok (.str (L2.cutS z j none)) F := ⟨_, sl_ok u1 (pc_ok (op2_ok u4 (eL1 (op2_ok u3 (rfl : eK (.int 6) F = _) (rfl : dGt _ _ = _)) rfl) rfl)) rfl (if_pos (by omega))⟩
          obtain ⟨y1, y2⟩ := cutS_ok hz.1 none (some ((k : Nat) : Int))
          obtain ⟨y3, y4⟩ := cutS_ok hz.1 j none
          have cat : ∀ {a b : Str}, a.length + b.length ≤ 100000 → dAdd (.str a) (.str b) = some (.str (a ++ b)) := fun {a b} hl => if_pos (by omega)
          have l1 := lenA (L2.cutS z none (some ((k : Nat) : Int))) mid
          have l2 := lenA (L2.cutS z none (some ((k : Nat) : Int)) ++ mid) (L2.cutS z j none)
          refine ⟨L2.cutS z none (some ((k : Nat) : Int)) ++ mid ++ L2.cutS z j none, s5, ?_, strOk_app (strOk_app y1 m2) y3, by omega, f3⟩
          have body := op2_ok (op2_ok c1 m1 (cat (by omega))) c2 (cat (by omega))
          refine out (r := [.d (.list ((spl z).map .str)), .d (.int (way : Nat)), .d (.int (k : Nat)), .d (.int (p : Nat)), .d (.list (oddW.map .str)), .d (.str od), .d (.str sg)]) f3 (pre _ _ ((seq_nx ((s1' _).trans rfl)).trans ((seq_nx ((if_f (h := sNx) e2).trans rfl)).trans ((seq_nx ((if_f (h := sNx) e3).trans rfl)).trans ((seq_nx ((if_f (h := sNx) e4).trans rfl)).trans ((seq_nx q8).trans ?_))))))
          subst hF
          exact rtD body
end
end VL

set_option Elab.async false
set_option autoImplicit false
set_option linter.all false
set_option maxRecDepth 100000
set_option maxHeartbeats 4000000
set_option exponentiation.threshold 3000
/-! K72i: the plain law of k72: the law itself. -/
namespace VL
open PySem TL
section
variable {n : Nat} {s : SV} {d : D} {z : Str}
def strL : List D := [.none, (.bool true), (.bool false), (.int 0), (.int 1), (.int (-1)), (.int (10 ^ 59)), (.str ""), (.str "a"), (.str "abcdefgh"), (.str "abcdefghi"), (.str "A"), (.str "a b"), (.str "on"), (.str "off"), (.str "step"), (.str "mark"), (.str "careful"), (.str "house"), (.str "open"), (.str "none"), (.tuple []), (.list []), (.tuple [(.str "a")]), (.tuple [(.int 0), (.str "go"), (.int 1)]), (.tuple [(.int 0), (.str "end"), (.int (-1))]), (.tuple [(.int 0), (.str "end"), (.int 0)]), (.tuple [(.int 0), (.str "stay"), (.int (-1))]), (.list [(.int 0), (.str "end"), (.int (-1))]), (.tuple [(.bool true), (.str "end"), (.int (-1))]), (.tuple [(.int 0), (.str "go"), (.int (-1))]), (.tuple [(.int 0), (.str "go"), (.bool true)]), (.tuple [(.str "step"), (.tuple [(.int 0), (.str "end"), (.int (-1))])]), (.list [(.str "mark"), (.str "a")]), (.tuple [(.str "mark"), (.str "a")]), (.tuple [(.str "careful"), (.str "on")]), (.tuple [(.str "mark"), (.str "a"), (.str "b")]), (.tuple [(.str "house"), (.str "a"), (.str "on")]), (.tuple [(.tuple [(.str "open"), (.str "open")]), (.tuple [(.tuple [(.str "a"), (.tuple [(.tuple [(.str "end")])]), (.tuple [])])])]), (.tuple [(.str "open"), (.str "marked")]), (.tuple [(.tuple [(.str "end")])])]
theorem strange_ok (hn : n ≤ 100000) (hf : Feed n s) : ∃ (x : D) (s' : SV), f_law_strange [s] = .ok (.d x) [s'] ∧ x ∈ strL ∧ Feed (n + 1) s' := by
  obtain ⟨x, s1, a1, a2, a3⟩ := any_ok n s strL (by omega) hf (by unfold strL; simp) (by unfold strL; simp)
  refine ⟨x, s1, ?_, a2, a3⟩
  refine (callS_rt (nn := 2) (svs := [s]) (e := [s1, .d (.list strL)]) (v := .d x) ?_).trans ?_
  · have pre : ∀ rest, rest [s, .d (.list strL)] = .rt (.d x) [s1, .d (.list strL)] → (sSeq (sSt (gN 1) (eL dLst (aCons (eK .none) (aCons (eK (.bool true)) (aCons (eK (.bool false)) (aCons (eK (.int 0)) (aCons (eK (.int 1)) (aCons (eOp1 dNeg (eK (.int 1))) (aCons (eOp2 dPow (eK (.int 10)) (eK (.int 59))) (aCons (eK (.str "")) (aCons (eK (.str "a")) (aCons (eK (.str "abcdefgh")) (aCons (eK (.str "abcdefghi")) (aCons (eK (.str "A")) (aCons (eK (.str "a b")) (aCons (eK (.str "on")) (aCons (eK (.str "off")) aNil))))))))))))))))) (sSeq (sSt (gN 1) (eOp2 dAdd (eV 1) (eL dLst (aCons (eK (.str "step")) (aCons (eK (.str "mark")) (aCons (eK (.str "careful")) (aCons (eK (.str "house")) (aCons (eK (.str "open")) (aCons (eK (.str "none")) (aCons (eL dTup aNil) (aCons (eL dLst aNil) (aCons (eL dTup (aCons (eK (.str "a")) aNil)) (aCons (eL dTup (aCons (eK (.int 0)) (aCons (eK (.str "go")) (aCons (eK (.int 1)) aNil)))) (aCons (eL dTup (aCons (eK (.int 0)) (aCons (eK (.str "end")) (aCons (eOp1 dNeg (eK (.int 1))) aNil)))) aNil)))))))))))))) (sSeq (sSt (gN 1) (eOp2 dAdd (eV 1) (eL dLst (aCons (eL dTup (aCons (eK (.int 0)) (aCons (eK (.str "end")) (aCons (eK (.int 0)) aNil)))) (aCons (eL dTup (aCons (eK (.int 0)) (aCons (eK (.str "stay")) (aCons (eOp1 dNeg (eK (.int 1))) aNil)))) (aCons (eL dLst (aCons (eK (.int 0)) (aCons (eK (.str "end")) (aCons (eOp1 dNeg (eK (.int 1))) aNil)))) (aCons (eL dTup (aCons (eK (.bool true)) (aCons (eK (.str "end")) (aCons (eOp1 dNeg (eK (.int 1))) aNil)))) (aCons (eL dTup (aCons (eK (.int 0)) (aCons (eK (.str "go")) (aCons (eOp1 dNeg (eK (.int 1))) aNil)))) (aCons (eL dTup (aCons (eK (.int 0)) (aCons (eK (.str "go")) (aCons (eK (.bool true)) aNil)))) aNil))))))))) (sSeq (sSt (gN 1) (eOp2 dAdd (eV 1) (eL dLst (aCons (eL dTup (aCons (eK (.str "step")) (aCons (eL dTup (aCons (eK (.int 0)) (aCons (eK (.str "end")) (aCons (eOp1 dNeg (eK (.int 1))) aNil)))) aNil))) (aCons (eL dLst (aCons (eK (.str "mark")) (aCons (eK (.str "a")) aNil))) (aCons (eL dTup (aCons (eK (.str "mark")) (aCons (eK (.str "a")) aNil))) (aCons (eL dTup (aCons (eK (.str "careful")) (aCons (eK (.str "on")) aNil))) (aCons (eL dTup (aCons (eK (.str "mark")) (aCons (eK (.str "a")) (aCons (eK (.str "b")) aNil)))) aNil)))))))) (sSeq (sSt (gN 1) (eOp2 dAdd (eV 1) (eL dLst (aCons (eL dTup (aCons (eK (.str "house")) (aCons (eK (.str "a")) (aCons (eK (.str "on")) aNil)))) (aCons (eL dTup (aCons (eL dTup (aCons (eK (.str "open")) (aCons (eK (.str "open")) aNil))) (aCons (eL dTup (aCons (eL dTup (aCons (eK (.str "a")) (aCons (eL dTup (aCons (eL dTup (aCons (eK (.str "end")) aNil)) aNil)) (aCons (eL dTup aNil) aNil)))) aNil)) aNil))) (aCons (eL dTup (aCons (eK (.str "open")) (aCons (eK (.str "marked")) aNil))) (aCons (eL dTup (aCons (eL dTup (aCons (eK (.str "end")) aNil)) aNil)) aNil))))))) rest))))) [s, .unset] = .rt (.d x) [s1, .d (.list strL)] := fun rest h => h
    exact pre _ (rt_ok (lend2 (i := 0) (e := [s, .d (.list strL)]) (m := eV 1) rfl hf.own rfl rfl hf.own a1 a3.own))
  · show Res.ok _ [if s1.own = true then s1 else .unset] = _
    rw [if_pos a3.own]
def chkOdd (x : D) : Bool := pB f_law_is_event x == some true || (pB f_law_is_event x == some false && pB f_is_event x == some false)
theorem chkOdd_all : strL.all chkOdd = true := by decide +kernel
theorem evodd_ok {x : D} (h : pB f_is_event x = some false) : f_event_line [.d x] = .err "NotUsable" (iNu (.str "event")) [.unset] :=
  callS_err (e := [.d x]) (seq_err (ex_err (want_f (toD_ok (c1 (x := x) rfl (pB_ok h))) rfl)))
theorem isTy_str (x : D) : isTy "str" x = isStr x := by cases x <;> rfl
theorem dNe_use (w : Str) (h : SeqAt.shaped (.tuple [.str "use", .str w, .int (-1)]) = true) (h2 : PyData.eqv (.tuple [.str "use", .str w, .int (-1)]) (.tuple [.str "use", .str w, .int (-1)]) = true) : dNe (.tuple [.str "use", .str w, .int (-1)]) (.tuple [.str "use", .str w, .int (-1)]) = some (.bool false) := by
  show (if SeqAt.shaped (.tuple [.str "use", .str w, .int (-1)]) = true ∧ SeqAt.shaped (.tuple [.str "use", .str w, .int (-1)]) = true then some (PyData.bool (!PyData.eqv (.tuple [.str "use", .str w, .int (-1)]) (.tuple [.str "use", .str w, .int (-1)]))) else none) = _
  rw [if_pos ⟨h, h⟩, h2]
  rfl
abbrev l8 (c s p l de li on od : SV) : Env := [c, s, p, l, de, li, on, od]
/-- the law's slots, n draws at most -/
def LawE (c : SV) (n : Nat) (e : Env) : Prop := ∃ s p l de li on od, e = l8 c s p l de li on od ∧ Feed n s
abbrev tRd : Sm := sIf (tNt (tB (oToD (oCallN 1 f_law_is_read [] (aaV (eV 2) aaN))) truthS)) (sRt (oD (eK (.bool false)))) sNx
theorem rd_step {c s l de li on od : SV} {z : Str} (h : POk z) : tRd (l8 c s (.d (.str z)) l de li on od) = .nx (l8 c s (.d (.str z)) l de li on od) :=
  (if_f (tnt_ok (p := true) (tb (toD_ok (c1 (x := .str z) rfl (isread_ok h)))))).trans rfl
def lnB (x : D) : Bool := match x with
  | .str z => PyData.strOk z && decide (z.length ≤ 1000)
  | _ => false
theorem lines_ok : ∃ ds, f_law_lines [] = .ok (.d (.list ds)) [] ∧ ∀ x ∈ ds, ∃ z, x = .str z ∧ POk z := by
  have q : (match f_law_lines [] with
    | .ok (.d (.list ds)) [] => ds.all lnB
    | _ => false) = true := by decide +kernel
  revert q
  generalize f_law_lines [] = r
  intro q
  split at q
  · rename_i ds
    refine ⟨ds, rfl, fun x hx => ?_⟩
    have := List.all_eq_true.mp q x hx
    cases x with
    | str z =>
      obtain ⟨q1, q2⟩ := Bool.and_eq_true_iff.mp this
      have q2 := of_decide_eq_true q2
      exact ⟨z, rfl, q1, by omega⟩
    | _ => cases this
  · cases q
end
end VL

set_option Elab.async false
set_option autoImplicit false
set_option linter.all false
set_option maxRecDepth 100000
set_option maxHeartbeats 4000000
set_option exponentiation.threshold 3000
/-! K72j: the plain law of k72: the laps. -/
namespace VL
open PySem TL
section
variable {n : Nat} {s : SV} {d : D} {z : Str}
abbrev lapB : Sm := (sSeq (sSt (gN 4) (oToD (oCallN 2 f_law_any_event [] (aaL 1 (aaV (oToD (oCallN 1 f_law_names [] (aaL 1 aaN))) aaN))))) (sSeq (sSt (gN 5) (oToD (oCallN 1 f_law_event_line [] (aaV (eV 4) aaN)))) (sSeq (sIf (tCm dNe (eL dRepr (aCons (eL dLst (aCons (oToD (oCallN 1 f_event_line [] (aaV (eV 4) aaN))) (aCons (oToD (oCallK 1 f_event_line [] aNil (aCons (eV 4) aNil))) aNil))) aNil)) (eL dRepr (aCons (eL dLst (aCons (eV 5) (aCons (eV 5) aNil))) aNil))) (sRt (oD (eK (.bool false)))) sNx) (sSeq (sSt (gN 6) (oToD (oCallN 2 f_law_bent_text [] (aaL 1 (aaV (eV 5) aaN))))) (sSeq (sFor (iOf itT (eL dTup (aCons (eV 5) (aCons (eV 6) (aCons (oToD (oCallN 2 f_law_bent_text [] (aaL 1 (aaV (eV 6) aaN)))) (aCons (oToD (oCallN 2 f_law_bent_text [] (aaL 1 (aaV (eV 5) aaN)))) aNil)))))) (gN 2) tRd) (sSeq (sSt (gN 7) (oToD (oCallN 1 f_law_strange [] (aaL 1 aaN)))) (sSeq (sIf (tAn (tNt (tB (oToD (oCallN 1 f_law_is_event [] (aaV (eV 7) aaN))) truthS)) (tCm dNe (eHeard "told" subPipe hearPipe (oToD (oCallN 1 f_event_line [] (aaV (eV 7) aaN)))) (eL dTup (aCons (eK (.str "use")) (aCons (eK (.str "event")) (aCons (eOp1 dNeg (eK (.int 1))) aNil)))))) (sRt (oD (eK (.bool false)))) sNx) (sIf (tAn (tNt (tB (eOp1 (dIsi "str") (eV 7)) truthS)) (tCm dNe (eHeard "told" subPipe hearPipe (oToD (oCallN 1 f_read_event [] (aaV (eV 7) aaN)))) (eL dTup (aCons (eK (.str "use")) (aCons (eK (.str "text")) (aCons (eOp1 dNeg (eK (.int 1))) aNil)))))) (sRt (oD (eK (.bool false)))) sNx))))))))
theorem use_ev : dNe (.tuple [.str "use", .str "event", .int (-1)]) (.tuple [.str "use", .str "event", .int (-1)]) = some (.bool false) := dNe_use _ (by decide +kernel) (by decide +kernel)
theorem use_tx : dNe (.tuple [.str "use", .str "text", .int (-1)]) (.tuple [.str "use", .str "text", .int (-1)]) = some (.bool false) := dNe_use _ (by decide +kernel) (by decide +kernel)
theorem bent_at {e : Env} {i : Nat} {m : Md D} (hi : e[i]? = some s) (hn : n ≤ 100000) (hf : Feed n s) (hz : POk z) (hl : z.length ≤ 10000) (H : m e = .ok (.str z) e) : ∃ (t : Str) (s' : SV), oToD (oCallN 2 f_law_bent_text [] (aaL i (aaV m aaN))) e = .ok (.str t) (e.set i s') ∧ POk t ∧ t.length ≤ 4 * z.length + 300 ∧ Feed (n + 5) s' := by
  obtain ⟨t, s', h1, h2, h3, h4⟩ := bent_ok hn hf hz hl
  exact ⟨t, s', toD_ok (lend2 hi hf.own H hi hf.own h1 h4.own), ⟨h2, by omega⟩, h3, h4⟩
theorem lap_ok {c : SV} (hn : n ≤ 50000) {e : Env} (he : LawE c n e) : ∃ e', lapB e = .nx e' ∧ LawE c (n + 25) e' := by
  have hsz : sizeLine = 16777216 := sizeLine_eq
  obtain ⟨s, p, l, de, li, on, od, rfl, hf⟩ := he
  obtain ⟨zs, s1, a1, a2, a3, a4⟩ := names_ok (by omega) hf
  obtain ⟨d, z, s2, b1, b2, b3⟩ := anyev_ok (by omega) a4 a2 a3
  have q1 : sSt (gN 4) (oToD (oCallN 2 f_law_any_event [] (aaL 1 (aaV (oToD (oCallN 1 f_law_names [] (aaL 1 aaN))) aaN)))) (l8 c s p l de li on od) = .nx (l8 c s2 p l (.d d) li on od) :=
    st_n (j := 4) (e1 := l8 c s2 p l de li on od) (toD_ok (lend2 (i := 1) (e := l8 c s p l de li on od) (e1 := l8 c s1 p l de li on od) rfl hf.own (toD_ok (lend1 (i := 1) (e := l8 c s p l de li on od) rfl hf.own a1 a4.own)) rfl a4.own b1 b3.own))
  have q2 : sSt (gN 5) (oToD (oCallN 1 f_law_event_line [] (aaV (eV 4) aaN))) (l8 c s2 p l (.d d) li on od) = .nx (l8 c s2 p l (.d d) (.d (.str z)) on od) := st_n (j := 5) (e1 := l8 c s2 p l (.d d) li on od) (toD_ok (c1 (x := d) rfl (lline_ok b2)))
  obtain ⟨z1, z2⟩ := b2.pok
  have hz : POk z := ⟨z1, by omega⟩
  have rp : dRepr [.list [.str z, .str z]] = some (.str (PyData.shown (.list [.str z, .str z]))) := dRepr_ok (Rep.lst ((Reps.nil (k := 0)).cons (Rep.str z1) |>.cons (Rep.str z1))) (by simp only [List.length_cons, List.length_nil]; omega) (by decide)
  have q3 : sIf (tCm dNe (eL dRepr (aCons (eL dLst (aCons (oToD (oCallN 1 f_event_line [] (aaV (eV 4) aaN))) (aCons (oToD (oCallK 1 f_event_line [] aNil (aCons (eV 4) aNil))) aNil))) aNil)) (eL dRepr (aCons (eL dLst (aCons (eV 5) (aCons (eV 5) aNil))) aNil))) (sRt (oD (eK (.bool false)))) sNx (l8 c s2 p l (.d d) (.d (.str z)) on od) = .nx (l8 c s2 p l (.d d) (.d (.str z)) on od) := by
    have u1 : eL dLst (aCons (oToD (oCallN 1 f_event_line [] (aaV (eV 4) aaN))) (aCons (oToD (oCallK 1 f_event_line [] aNil (aCons (eV 4) aNil))) aNil)) (l8 c s2 p l (.d d) (.d (.str z)) on od) = .ok (.list [.str z, .str z]) (l8 c s2 p l (.d d) (.d (.str z)) on od) := eL_ok (cons_ok (toD_ok (c1 (x := d) rfl (evline_ok b2))) (cons_ok (toD_ok (k1 (x := d) rfl (evline_ok b2))) aN_ok)) rfl
    have u2 : eL dLst (aCons (eV 5) (aCons (eV 5) aNil)) (l8 c s2 p l (.d d) (.d (.str z)) on od) = .ok (.list [.str z, .str z]) (l8 c s2 p l (.d d) (.d (.str z)) on od) := rfl
    refine (if_f (tcm_ok (f := dNe) (eL1 u1 rp) (eL1 u2 rp) ?_)).trans rfl
    show some (PyData.bool (!((PyData.shown (.list [.str z, .str z])) == (PyData.shown (.list [.str z, .str z]))))) = _
    rw [beq_self_eq_true]
    rfl
  obtain ⟨t1, s3, c1, c2, c3, c4⟩ := bent_at (i := 1) (e := l8 c s2 p l (.d d) (.d (.str z)) on od) (m := eV 5) rfl (by omega) b3 hz (by omega) rfl
  have q4 : sSt (gN 6) (oToD (oCallN 2 f_law_bent_text [] (aaL 1 (aaV (eV 5) aaN)))) (l8 c s2 p l (.d d) (.d (.str z)) on od) = .nx (l8 c s3 p l (.d d) (.d (.str z)) (.d (.str t1)) od) := st_n (j := 6) (e1 := l8 c s3 p l (.d d) (.d (.str z)) on od) c1
  obtain ⟨t2, s4, d1, d2, d3, d4⟩ := bent_at (i := 1) (e := l8 c s3 p l (.d d) (.d (.str z)) (.d (.str t1)) od) (m := eV 6) rfl (by omega) c4 c2 (by omega) rfl
  obtain ⟨t3, s5, e1, e2, e3, e4⟩ := bent_at (i := 1) (e := l8 c s4 p l (.d d) (.d (.str z)) (.d (.str t1)) od) (m := eV 5) rfl (by omega) d4 hz (by omega) rfl
  have it : iOf itT (eL dTup (aCons (eV 5) (aCons (eV 6) (aCons (oToD (oCallN 2 f_law_bent_text [] (aaL 1 (aaV (eV 6) aaN)))) (aCons (oToD (oCallN 2 f_law_bent_text [] (aaL 1 (aaV (eV 5) aaN)))) aNil))))) (l8 c s3 p l (.d d) (.d (.str z)) (.d (.str t1)) od) = .ok [.str z, .str t1, .str t2, .str t3] (l8 c s5 p l (.d d) (.d (.str z)) (.d (.str t1)) od) := by
    have u : eL dTup (aCons (eV 5) (aCons (eV 6) (aCons (oToD (oCallN 2 f_law_bent_text [] (aaL 1 (aaV (eV 6) aaN)))) (aCons (oToD (oCallN 2 f_law_bent_text [] (aaL 1 (aaV (eV 5) aaN)))) aNil)))) (l8 c s3 p l (.d d) (.d (.str z)) (.d (.str t1)) od) = .ok (.tuple [.str z, .str t1, .str t2, .str t3]) (l8 c s5 p l (.d d) (.d (.str z)) (.d (.str t1)) od) := eL_ok (cons_ok (x := .str z) rfl (cons_ok (x := .str t1) rfl (cons_ok d1 (cons_ok e1 aN_ok)))) rfl
    unfold iOf
    exact (bnd_ok u).trans rfl
  obtain ⟨E', f1, p', rfl⟩ := for_all (g := gN 2) (G := tRd) (fun _ e => ∃ p', e = l8 c s5 p' l (.d d) (.d (.str z)) (.d (.str t1)) od) [.str z, .str t1, .str t2, .str t3] 0 (fun x hx k e he => by
    obtain ⟨p', rfl⟩ := he
    obtain ⟨y, rfl, hy⟩ : ∃ y, x = .str y ∧ POk y := by
      simp only [List.mem_cons, List.not_mem_nil, or_false] at hx
      rcases hx with rfl | rfl | rfl | rfl
      · exact ⟨_, rfl, hz⟩
      · exact ⟨_, rfl, c2⟩
      · exact ⟨_, rfl, d2⟩
      · exact ⟨_, rfl, e2⟩
    exact ⟨_, _, rfl, rd_step hy, _, rfl⟩) (l8 c s5 p l (.d d) (.d (.str z)) (.d (.str t1)) od) ⟨_, rfl⟩
  have q5 := (for_ok (g := gN 2) (G := tRd) it).trans f1
  obtain ⟨x, s6, g1, g2, g3⟩ := strange_ok (by omega) e4
  have q6 : sSt (gN 7) (oToD (oCallN 1 f_law_strange [] (aaL 1 aaN))) (l8 c s5 p' l (.d d) (.d (.str z)) (.d (.str t1)) od) = .nx (l8 c s6 p' l (.d d) (.d (.str z)) (.d (.str t1)) (.d x)) := st_n (j := 7) (e1 := l8 c s6 p' l (.d d) (.d (.str z)) (.d (.str t1)) od) (toD_ok (lend1 (i := 1) (e := l8 c s5 p' l (.d d) (.d (.str z)) (.d (.str t1)) od) rfl e4.own g1 g3.own))
  generalize hE : l8 c s6 p' l (.d d) (.d (.str z)) (.d (.str t1)) (.d x) = E at q6
  have v7 : eV 7 E = .ok x E := by subst hE; rfl
  have hev : tAn (tNt (tB (oToD (oCallN 1 f_law_is_event [] (aaV (eV 7) aaN))) truthS)) (tCm dNe (eHeard "told" subPipe hearPipe (oToD (oCallN 1 f_event_line [] (aaV (eV 7) aaN)))) (eL dTup (aCons (eK (.str "use")) (aCons (eK (.str "event")) (aCons (eOp1 dNeg (eK (.int 1))) aNil))))) E = .ok false E := by
    have hc := List.all_eq_true.mp chkOdd_all x g2
    unfold chkOdd at hc
    rcases Bool.or_eq_true_iff.mp hc with h | h
    · exact tan_f (tnt_ok (p := true) (tb (toD_ok (VL.c1 v7 (pB_ok (eq_of_beq h))))))
    · obtain ⟨h1, h2⟩ := Bool.and_eq_true_iff.mp h
      refine (tan_t (tnt_ok (p := false) (tb (toD_ok (VL.c1 v7 (pB_ok (eq_of_beq h1))))))).trans ?_
      exact tcm_ok (heard_x (toD_err (c1e v7 (evodd_ok (eq_of_beq h2)))) sub_nu hear_nu) rfl use_ev
  have hrd : tAn (tNt (tB (eOp1 (dIsi "str") (eV 7)) truthS)) (tCm dNe (eHeard "told" subPipe hearPipe (oToD (oCallN 1 f_read_event [] (aaV (eV 7) aaN)))) (eL dTup (aCons (eK (.str "use")) (aCons (eK (.str "text")) (aCons (eOp1 dNeg (eK (.int 1))) aNil))))) E = .ok false E := by
    have t : tB (eOp1 (dIsi "str") (eV 7)) truthS E = .ok (isStr x) E := tb (op1_ok v7 (by show some (PyData.bool (isTy "str" x)) = _; rw [isTy_str]))
    cases hs : isStr x with
    | true =>
      rw [hs] at t
      exact tan_f (tnt_ok t)
    | false =>
      rw [hs] at t
      refine (tan_t (tnt_ok t)).trans ?_
      exact tcm_ok (heard_x (toD_err (c1e v7 (read_odd hs))) sub_nu hear_nu) rfl use_tx
  refine ⟨E, ?_, ?_⟩
  · exact (seq_nx q1).trans ((seq_nx q2).trans ((seq_nx q3).trans ((seq_nx q4).trans ((seq_nx q5).trans ((seq_nx q6).trans ((seq_nx ((if_f hev).trans rfl)).trans ((if_f hrd).trans rfl)))))))
  · subst hE
    exact ⟨_, _, _, _, _, _, _, rfl, g3.mono (by omega)⟩
theorem law_true (ns : List Int) (h : ns.length ≤ 63) : ∃ e, f_law [.d (.list (ns.map PyData.int))] = .ok (.d (.bool true)) e := by
  obtain ⟨s, a1, a2⟩ := feed_ok ns h
  have q1 : sStO 1 (oCallN 1 f_law_feed [] (aaV (eV 0) aaN)) (l8 (.d (.list (ns.map PyData.int))) .unset .unset .unset .unset .unset .unset .unset) = .nx (l8 (.d (.list (ns.map PyData.int))) s .unset .unset .unset .unset .unset .unset) := sto_ok (e1 := l8 (.d (.list (ns.map PyData.int))) .unset .unset .unset .unset .unset .unset .unset) (c1 rfl a1) (Nat.le_of_ble_eq_true rfl)
  obtain ⟨ds, b1, b2⟩ := lines_ok
  have it : iOf itL (oToD (oCallN 0 f_law_lines [] aaN)) (l8 (.d (.list (ns.map PyData.int))) s .unset .unset .unset .unset .unset .unset) = .ok ds (l8 (.d (.list (ns.map PyData.int))) s .unset .unset .unset .unset .unset .unset) := by
    have u : oToD (oCallN 0 f_law_lines [] aaN) (l8 (.d (.list (ns.map PyData.int))) s .unset .unset .unset .unset .unset .unset) = .ok (.list ds) (l8 (.d (.list (ns.map PyData.int))) s .unset .unset .unset .unset .unset .unset) := toD_ok (call_ok aaN_ok rfl rfl b1)
    unfold iOf
    exact (bnd_ok u).trans rfl
  obtain ⟨E1, c1, p1, rfl⟩ := for_all (g := gN 2) (G := tRd) (fun _ e => ∃ p, e = l8 (.d (.list (ns.map PyData.int))) s p .unset .unset .unset .unset .unset) ds 0 (fun x hx k e he => by
    obtain ⟨p, rfl⟩ := he
    obtain ⟨y, rfl, hy⟩ := b2 x hx
    exact ⟨_, _, rfl, rd_step hy, _, rfl⟩) (l8 (.d (.list (ns.map PyData.int))) s .unset .unset .unset .unset .unset .unset) ⟨_, rfl⟩
  have q2 := (for_ok (g := gN 2) (G := tRd) it).trans c1
  obtain ⟨E2, d1, d2⟩ := for_allN (g := gN 3) (G := lapB) (fun k e => LawE (.d (.list (ns.map PyData.int))) (25 * k) e) ((List.range' 0 12).map fun i : Nat => PyData.int (i : Int)) 0 (fun x hx k hk e he => by
    have hk : k < 12 := by simpa using hk
    obtain ⟨s', p, l, de, li, on, od, rfl, hf⟩ := he
    obtain ⟨e', h1, h2⟩ := lap_ok (c := .d (.list (ns.map PyData.int))) (n := 25 * k) (by omega) (e := l8 (.d (.list (ns.map PyData.int))) s' p (.d x) de li on od) ⟨_, _, _, _, _, _, _, rfl, hf⟩
    exact ⟨_, _, rfl, h1, h2⟩) (l8 (.d (.list (ns.map PyData.int))) s p1 .unset .unset .unset .unset .unset) ⟨_, _, _, _, _, _, _, rfl, a2⟩
  have q3 := (for_ok (g := gN 3) (G := lapB) (itR1_ok (m := eK (.int 12)) (n := 12) rfl (by decide))).trans d1
  exact ⟨_, callS_rt (nn := 8) (svs := [.d (.list (ns.map PyData.int))]) ((seq_nx q1).trans ((seq_nx q2).trans ((seq_nx q3).trans (rtD rfl))))⟩
end
end VL

set_option Elab.async false
set_option linter.all false
set_option maxRecDepth 100000
set_option maxHeartbeats 0
/-! the head's run, the law's end -/
namespace VL
open PySem PySem.Spec PyProof.Rows L2
abbrev hd_R : PySem.W.OpenRow := PySem.W.OpenLaw.row PySem.Challenge.rw_keptends_k72_events_written_and_read
abbrev hd_k : PySem.W.Hook := hookV 6 hd_fa hd_fn hd_tf (exAll hd_ex) hd_xs
def hd_ob (s : PySem.W.SharedT) : AlV := obsV 6 hd_fa hd_fn hd_tf (exAll hd_ex) hd_xs (HandSHeadRun.getT s)
theorem hd_ob_eq (s : PySem.W.SharedT) : hd_ob s = hd_k.obs s.abs := obsV_eq (HandSHeadRun.getT_eq s)
theorem hd_run (w : World) : HandSHeadRun.RunEq hd_R (PySem.W.view hd_R.prog [hd_law]) hd_k hd_ob 6000 hd_loose w := by
  intro os
  kernel_rfl
theorem hd_F {w : World} {K : PySem.W.Frag} {h : Heap} {mg : Str → Option Value} {fa : Addr} (X : K.In h) (G : h.Ns mainGlobals mg) (hfa : mg ("law" : Str) = some (.ref fa)) (c : SaysV hd_fa hd_fn hd_tf (exAll hd_ex) hd_xs h K)
    (hlaw : ∀ ns : List Int, ns.length ≤ 63 → (∀ z ∈ ns, Builtin.Int.intBits z ≤ 1048576) → ∃ e, f_law [.d (.list (ns.map PyData.int))] = .ok (.d (.bool true)) e) : LawV PySem.Challenge.rw_keptends_k72_events_written_and_read w K hd_lev 63 "_law_script" mg fa h := by
  have fx : ∀ base : Heap, K.In base → base.Ns mainGlobals mg → (∀ p ∈ hd_tf.map (fun x => He.cT K (x, none)), LamX.TabB base mg p.1 p.2) → Fx hd_P w K mg base (ctOf K hd_cs) (ttOf K hd_tf) := fun base _ _ hT => fx_of X G c hT
  have dl : ∃ fd, FunD K "law" "law" (defArgs st_law) (defBody st_law) (defScope st_law) [] [] (He.ga K "law") fd := c.d.def_ 40 rfl
  have e : mg ("law" : Str) = some (.ref (He.ga K "law")) := He.glo_ok X G (c.d.fact 65 rfl)
  have ef : fa = He.ga K "law" := by
    have z := hfa.symm.trans e
    cases z
    rfl
  obtain ⟨fd, F⟩ := dl
  have b := FunD.bindsA (ps := ["_law_script"]) F fun _ _ _ _ _ _ us hl => match us, hl with | [_], _ => rfl
  refine ⟨fd, hd_tf.map fun x => He.cT K (x, none), spV K (ctOf K hd_cs) (ttOf K hd_tf) 1 f_law, law_tabs X c, fun s u => b s [u] rfl, fun H a ns hl hb hT hS => ?_, fun base Kb Gb hT => ?_⟩
  · obtain ⟨e, he⟩ := hlaw ns hl hb
    refine spV_law he (Nat.le_trans hl (Nat.le_of_ble_eq_true rfl)) hS fun p hp => ?_
    obtain ⟨x, hx, rfl⟩ := List.mem_map.mp hp
    exact hT _ (List.mem_map.mpr ⟨x, hx, rfl⟩)
  · rw [ef]
    exact ok_law (fx base Kb Gb hT) F
end VL
open PySem PySem.W PySem.Calls PyProof.Rows
theorem law_of (hlaw : ∀ ns : List Int, ns.length ≤ 63 → (∀ z ∈ ns, Builtin.Int.intBits z ≤ 1048576) → ∃ e, VL.f_law [.d (.list (ns.map PyData.int))] = .ok (.d (.bool true)) e) : PySem.Challenge.rw_keptends_k72_events_written_and_read.Holds := by
  w_on; o_law
  refine HandSHeadRun.head_any (r := OpenLaw.row PySem.Challenge.rw_keptends_k72_events_written_and_read) (q := view (OpenLaw.row PySem.Challenge.rw_keptends_k72_events_written_and_read).prog [VL.hd_law]) (H := VL.hd_k) (ob := VL.hd_ob) (M := 6000) (loose := VL.hd_loose) (d := HandSHeadRun.topDef (OpenLaw.row PySem.Challenge.rw_keptends_k72_events_written_and_read).prog VL.hd_law) (kwd := []) VL.hd_ob_eq
    (by kernel_rfl) (fun s => by kernel_rfl) VL.hd_run (by kernel_rfl) (by kernel_rfl) (by kernel_rfl) (by rfl) (by first | assumption | decide +kernel) (by decide +kernel) ⟨rfl, rfl, rfl, rfl, rfl, by decide +kernel⟩ ?hw ?hc
  case hw => w_witness2
  case hc =>
    refine VL.walk_ofV (l := PySem.Challenge.rw_keptends_k72_events_written_and_read) (n := 63) (k := VL.hd_lev) (x := "_law_script") rfl (by decide) (by kernel_rfl) ⟨rfl, by decide, by decide⟩ ?F
    intro w mg fa h Y G hmg0
    obtain ⟨K, KX, c⟩ := Y
    have hmg : mg ("law" : PySem.Str) = some (.ref fa) := by
      have e : (HandSHeadRun.topDef (OpenLaw.row PySem.Challenge.rw_keptends_k72_events_written_and_read).prog VL.hd_law).name = ("law" : PySem.Str) := by kernel_rfl
      rw [← e]
      exact hmg0
    exact ⟨K, KX, VL.hd_F KX G hmg c hlaw⟩

set_option maxRecDepth 100000 in
theorem PySem.Challenge.cw_keptends_k72_events_written_and_read_holds : PySem.Challenge.rw_keptends_k72_events_written_and_read.Holds := by
  exact law_of fun ns h _ => VL.law_true ns h
