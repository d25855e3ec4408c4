import PyProof.Rows.All
import HandS.ForMost
import HandS.ForExc
import HandS.Wide
import HandS.CallSlots
import KE.DataEq
import HandS.IsInst
import HandS.Defaults
import HandS.More
import HandS.TryOnly
import HandS.ExcField
import KE.KExcIs
import HandS.ExcIs
import HandS.ExcInit
import KE.KStateDown
import HandS.Head0
import HandS.Head1
import HandS.Head2
import HandS.HeadEnd
import HandS.HeadHook1
import HandS.HeadHook2
import HandS.HeadWalk
import HandS.ClsMeth
import HandS.Conv
import HandS.SortInts
import HandS.Dict
import HandS.DictEq
import HandS.DeepEq
import HandS.TupAny
import HandS.TupMul
import HandS.DictComp
import KE.KEqNest
import PyProof.NeKinds
import HandS.Rev
import HandS.RevTup
import HandS.Text
import HandS.Exc
import HandS.Style
import PyProof.StrOps2
import HandS.Codes
import PySem.Challenge.RW_knockwright_k06_texts_refused
set_option Elab.async false
set_option linter.all false
set_option maxRecDepth 100000
set_option maxHeartbeats 4000000
/-! VS1: data without a heap (D: shared, nobody changes it; Sl: owned, what a slot holds), how they lie in the abstract heap. Own work. -/
namespace VS
open PySem PySem.Spec PyProof.Rows
open L2 (V Hp HO upd SqL SqT Rd)
/-- shared data; a list is stable (true), or was handed in and may be changed again behind the call (false) -/
inductive D where
  | non | bl (b : Bool) | int (i : Int) | str (s : Str) | ty (n : String) | fn (x : Str)
  | tup (ds : List D)
  | lst (st : Bool) (ds : List D)
  | dct (ks : List L2.Key) (ds : List D)
/-- what one owner holds: shared data; a list of shared data that it may change; a tuple, an object, a list of such -/
inductive Sl where
  | no
  | v (d : D)
  | l (ds : List D)
  | t (ss : List Sl)
  | o (cn : Str) (ns : List Str) (ss : List Sl)
  | ll (ss : List Sl)
mutual
/-- may be handed back -/
def retOk : D → Bool
  | .tup ds => retOks ds
  | .lst st ds => st && retOks ds
  | .dct _ ds => retOks ds
  | _ => true
def retOks : List D → Bool
  | [] => true
  | d :: ds => retOk d && retOks ds
end
mutual
def retSl : Sl → Bool
  | .no => false
  | .v d => retOk d
  | .l ds => retOks ds
  | .t ss => retSls ss
  | .o _ _ ss => retSls ss
  | .ll ss => retSls ss
def retSls : List Sl → Bool
  | [] => true
  | s :: ss => retSl s && retSls ss
end
/-! owned no more -/
mutual
def frSl : Sl → Option D
  | .no => none
  | .v d => some d
  | .l ds => some (.lst true ds)
  | .t ss => (frSls ss).map .tup
  | .o _ _ _ => none
  | .ll ss => (frSls ss).map (.lst true)
def frSls : List Sl → Option (List D)
  | [] => some []
  | s :: ss => (frSl s).bind fun d => (frSls ss).map (d :: ·)
end
structure Ge where
  K : PySem.W.Frag
  mg : Str → Option Value
/-- a list of the written part -/
def KL (K : PySem.W.Frag) (a : Addr) (xs : List V) : Prop :=
  ∃ (o : Obj) (its : Array Value) (n : Nat), K.lookup a = some o ∧ o.cls = .type "list" ∧ o.dict = none ∧ o.data = .seq its n ∧ its.size ≤ sizeLine ∧ L2.Vals xs its.toList
/-- a list that nobody changes: tracked (P: what is asked of its address), known, or written -/
def LT (K : PySem.W.Frag) (P : Addr → Prop) (H : Hp) (a : Addr) (vs : List V) : Prop :=
  (H a = some (.lst vs) ∧ P a) ∨ (∃ o, H a = some (.frz o (.lst vs))) ∨ KL K a vs
theorem LT.sq {K : PySem.W.Frag} {P : Addr → Prop} {H : Hp} {a : Addr} {vs : List V} (h : LT K P H a vs) : SqL K H a vs := by
  rcases h with ⟨h, _⟩ | h | h
  · exact .inl (.inl h)
  · exact .inl (.inr h)
  · exact .inr h
theorem LT.imp {K : PySem.W.Frag} {P P' : Addr → Prop} {H : Hp} {a : Addr} {vs : List V} (hp : ∀ a, H a ≠ none → P a → P' a) (h : LT K P H a vs) : LT K P' H a vs := by
  rcases h with ⟨h, p⟩ | h | h
  · exact .inl ⟨h, hp a (by rw [h]; simp) p⟩
  · exact .inr (.inl h)
  · exact .inr (.inr h)
mutual
/-- v stands for d over H; M: the addresses that are owned here, Z: those of the callers -/
inductive Rep (g : Ge) (Z : Addr → Prop) (M : Addr → Prop) (H : Hp) : V → D → Prop
  | non : Rep g Z M H .non .non
  | bl (b : Bool) : Rep g Z M H (.bl b) (.bl b)
  | int (i : Int) : Rep g Z M H (.int i) (.int i)
  | str (s : Str) : Rep g Z M H (.str s) (.str s)
  | ty (n : String) : Rep g Z M H (.ty n) (.ty n)
  | fn {x : Str} {a : Addr} : g.mg x = some (.ref a) → Rep g Z M H (.ref a) (.fn x)
  | tup {a : Addr} {vs : List V} {ds : List D} : SqT g.K H a vs → Reps g Z M H vs ds → Rep g Z M H (.ref a) (.tup ds)
  | lst {st : Bool} {a : Addr} {vs : List V} {ds : List D} : LT g.K (fun a => ¬ M a ∧ (st = true → ¬ Z a)) H a vs → Reps g Z M H vs ds → Rep g Z M H (.ref a) (.lst st ds)
  | dct {a : Addr} {kvs : List (L2.Key × V)} {ks : List L2.Key} {vs : List V} {ds : List D} : H a = some (.dK kvs) → kvs.map (·.1) = ks → kvs.map (·.2) = vs → Reps g Z M H vs ds → Rep g Z M H (.ref a) (.dct ks ds)
inductive Reps (g : Ge) (Z : Addr → Prop) (M : Addr → Prop) (H : Hp) : List V → List D → Prop
  | nil : Reps g Z M H [] []
  | cons {v : V} {d : D} {vs : List V} {ds : List D} : Rep g Z M H v d → Reps g Z M H vs ds → Reps g Z M H (v :: vs) (d :: ds)
end
mutual
/-- .. for what is owned; as: the addresses that it owns -/
inductive RepO (g : Ge) (Z : Addr → Prop) (M : Addr → Prop) (H : Hp) : V → Sl → List Addr → Prop
  | v {v : V} {d : D} : Rep g Z M H v d → RepO g Z M H v (.v d) []
  | l {a : Addr} {vs : List V} {ds : List D} : H a = some (.lst vs) → Reps g Z M H vs ds → RepO g Z M H (.ref a) (.l ds) [a]
  | t {a : Addr} {vs : List V} {ss : List Sl} {as : List Addr} : SqT g.K H a vs → RepOs g Z M H vs ss as → RepO g Z M H (.ref a) (.t ss) as
  | o {a C dx : Addr} {cn : Str} {fs : List (Str × V)} {ns : List Str} {vs : List V} {ss : List Sl} {as : List Addr} : H a = some (.ins C dx fs) → g.mg cn = some (.ref C) → fs.map (·.1) = ns → fs.map (·.2) = vs → RepOs g Z M H vs ss as → RepO g Z M H (.ref a) (.o cn ns ss) (a :: as)
  | ll {a : Addr} {vs : List V} {ss : List Sl} {as : List Addr} : H a = some (.lst vs) → RepOs g Z M H vs ss as → RepO g Z M H (.ref a) (.ll ss) (a :: as)
inductive RepOs (g : Ge) (Z : Addr → Prop) (M : Addr → Prop) (H : Hp) : List V → List Sl → List Addr → Prop
  | nil : RepOs g Z M H [] [] []
  | cons {v : V} {s : Sl} {as : List Addr} {vs : List V} {ss : List Sl} {bs : List Addr} : RepO g Z M H v s as → RepOs g Z M H vs ss bs → RepOs g Z M H (v :: vs) (s :: ss) (as ++ bs)
end
/-- what is owned is a list or an instance -/
def Typed (H : Hp) (a : Addr) : Prop := (∃ vs, H a = some (.lst vs)) ∨ ∃ C dx fs, H a = some (.ins C dx fs)
theorem Typed.ne {H : Hp} {a : Addr} (t : Typed H a) : H a ≠ none := by
  rcases t with ⟨_, e⟩ | ⟨_, _, _, e⟩ <;> (rw [e]; simp)
section
variable {g : Ge} {Z : Addr → Prop} {M M' : Addr → Prop} {H H' : Hp}
mutual
theorem RepO.typed : ∀ {v : V} {s : Sl} {as : List Addr}, RepO g Z M H v s as → ∀ a ∈ as, Typed H a
  | _, _, _, .v _, _, h => absurd h (by simp)
  | _, _, _, .l e _, a, h => by
    rcases List.mem_cons.mp h with rfl | h
    · exact .inl ⟨_, e⟩
    · exact absurd h (by simp)
  | _, _, _, .t _ r, a, h => r.typed a h
  | _, _, _, .o e _ _ _ r, a, h => by
    rcases List.mem_cons.mp h with rfl | h
    · exact .inr ⟨_, _, _, e⟩
    · exact r.typed a h
  | _, _, _, .ll e r, a, h => by
    rcases List.mem_cons.mp h with rfl | h
    · exact .inl ⟨_, e⟩
    · exact r.typed a h
theorem RepOs.typed : ∀ {vs : List V} {ss : List Sl} {as : List Addr}, RepOs g Z M H vs ss as → ∀ a ∈ as, Typed H a
  | _, _, _, .nil, _, h => absurd h (by simp)
  | _, _, _, .cons r rs, a, h => by
    rcases List.mem_append.mp h with h | h
    · exact r.typed a h
    · exact rs.typed a h
end
theorem Typed.notT {a : Addr} {vs : List V} (t : Typed H a) (h : H a = some (.tup vs)) : False := by
  rcases t with ⟨_, e⟩ | ⟨_, _, _, e⟩ <;> (rw [h] at e; cases e)
theorem Typed.notF {a : Addr} {o : Obj} {u : HO} (t : Typed H a) (h : H a = some (.frz o u)) : False := by
  rcases t with ⟨_, e⟩ | ⟨_, _, _, e⟩ <;> (rw [h] at e; cases e)
theorem Typed.notD {a : Addr} {kvs : List (L2.Key × V)} (t : Typed H a) (h : H a = some (.dK kvs)) : False := by
  rcases t with ⟨_, e⟩ | ⟨_, _, _, e⟩ <;> (rw [h] at e; cases e)
/-- from H, M to H', M': but at ch all stands -/
structure Moved (ch M M' : Addr → Prop) (H H' : Hp) : Prop where
  keep : ∀ b o, H b = some o → ¬ ch b → H' b = some o
  ty : ∀ a, ch a → Typed H a
  sub : ∀ a, ch a → M a
  new : ∀ a, M' a → M a ∨ H a = none
theorem Moved.refl : Moved (fun _ => False) M M H H := ⟨fun _ _ h _ => h, fun _ h => h.elim, fun _ h => h.elim, fun _ h => .inl h⟩
variable {ch : Addr → Prop}
theorem Moved.tup (m : Moved ch M M' H H') {K : PySem.W.Frag} {a : Addr} {vs : List V} (h : SqT K H a vs) : SqT K H' a vs := by
  rcases h with (h | ⟨o, h⟩) | h
  · exact .inl (.inl (m.keep _ _ h fun z => (m.ty _ z).notT h))
  · exact .inl (.inr ⟨o, m.keep _ _ h fun z => (m.ty _ z).notF h⟩)
  · exact .inr h
theorem Moved.lt (m : Moved ch M M' H H') {K : PySem.W.Frag} {P P' : Addr → Prop} (hp : ∀ a, P a → ¬ M a ∧ (¬ M' a → P' a)) {a : Addr} {vs : List V} (h : LT K P H a vs) : LT K P' H' a vs := by
  rcases h with ⟨h, p⟩ | ⟨o, h⟩ | h
  · obtain ⟨n, q⟩ := hp a p
    refine .inl ⟨m.keep _ _ h fun z => n (m.sub _ z), q fun z => ?_⟩
    rcases m.new a z with z | z
    · exact n z
    · rw [h] at z; cases z
  · exact .inr (.inl ⟨o, m.keep _ _ h fun z => (m.ty _ z).notF h⟩)
  · exact .inr (.inr h)
mutual
theorem Rep.moved (m : Moved ch M M' H H') : ∀ {v : V} {d : D}, Rep g Z M H v d → Rep g Z M' H' v d
  | _, _, .non => .non
  | _, _, .bl b => .bl b
  | _, _, .int i => .int i
  | _, _, .str s => .str s
  | _, _, .ty n => .ty n
  | _, _, .fn h => .fn h
  | _, _, .tup h r => .tup (m.tup h) (r.moved m)
  | _, .lst st _, .lst l r => .lst (m.lt (P := fun a => ¬ M a ∧ (st = true → ¬ Z a)) (P' := fun a => ¬ M' a ∧ (st = true → ¬ Z a)) (fun a p => ⟨p.1, fun z => ⟨z, p.2⟩⟩) l) (r.moved m)
  | _, _, .dct e n w r => .dct (m.keep _ _ e fun z => (m.ty _ z).notD e) n w (r.moved m)
theorem Reps.moved (m : Moved ch M M' H H') : ∀ {vs : List V} {ds : List D}, Reps g Z M H vs ds → Reps g Z M' H' vs ds
  | _, _, .nil => .nil
  | _, _, .cons r rs => .cons (r.moved m) (rs.moved m)
end
mutual
theorem RepO.moved (m : Moved ch M M' H H') : ∀ {v : V} {s : Sl} {as : List Addr}, RepO g Z M H v s as → (∀ a ∈ as, ¬ ch a) → RepO g Z M' H' v s as
  | _, _, _, .v r, _ => .v (r.moved m)
  | _, _, _, .l e r, hc => .l (m.keep _ _ e (hc _ (by simp))) (r.moved m)
  | _, _, _, .t h r, hc => .t (m.tup h) (r.moved m hc)
  | _, _, _, .o e h n w r, hc => .o (m.keep _ _ e (hc _ List.mem_cons_self)) h n w (r.moved m fun a h => hc a (List.mem_cons_of_mem _ h))
  | _, _, _, .ll e r, hc => .ll (m.keep _ _ e (hc _ List.mem_cons_self)) (r.moved m fun a h => hc a (List.mem_cons_of_mem _ h))
theorem RepOs.moved (m : Moved ch M M' H H') : ∀ {vs : List V} {ss : List Sl} {as : List Addr}, RepOs g Z M H vs ss as → (∀ a ∈ as, ¬ ch a) → RepOs g Z M' H' vs ss as
  | _, _, _, .nil, _ => .nil
  | _, _, _, .cons r rs, hc => .cons (r.moved m fun a h => hc a (List.mem_append_left _ h)) (rs.moved m fun a h => hc a (List.mem_append_right _ h))
end
/-- only new objects -/
def Ext (H H' : Hp) : Prop := ∀ b o, H b = some o → H' b = some o
theorem Ext.refl (H : Hp) : Ext H H := fun _ _ h => h
theorem Ext.trans {H1 : Hp} (a : Ext H H1) (b : Ext H1 H') : Ext H H' := fun c o h => b c o (a c o h)
theorem Ext.new {p : Addr} {o : HO} (h : H p = none) : Ext H (upd H p o) := fun a u e => by
  rw [L2.upd_ne (L2.ne_of_none e h)]; exact e
theorem Ext.free (x : Ext H H') {p : Addr} (h : H' p = none) : H p = none := by
  cases e : H p with
  | none => rfl
  | some o => rw [x p o e] at h; cases h
theorem Ext.tup (x : Ext H H') {K : PySem.W.Frag} {a : Addr} {vs : List V} (h : SqT K H a vs) : SqT K H' a vs := by
  rcases h with (h | ⟨o, h⟩) | h
  · exact .inl (.inl (x _ _ h))
  · exact .inl (.inr ⟨o, x _ _ h⟩)
  · exact .inr h
theorem Ext.lst (x : Ext H H') {K : PySem.W.Frag} {a : Addr} {vs : List V} (h : SqL K H a vs) : SqL K H' a vs := by
  rcases h with (h | ⟨o, h⟩) | h
  · exact .inl (.inl (x _ _ h))
  · exact .inl (.inr ⟨o, x _ _ h⟩)
  · exact .inr h
theorem Ext.mv (x : Ext H H') : Moved (fun _ => False) M M H H' := ⟨fun b o e _ => x b o e, fun _ h => h.elim, fun _ h => h.elim, fun _ h => .inl h⟩
theorem Rep.ext (x : Ext H H') {v : V} {d : D} (r : Rep g Z M H v d) : Rep g Z M H' v d := r.moved x.mv
theorem Reps.ext (x : Ext H H') {vs : List V} {ds : List D} (r : Reps g Z M H vs ds) : Reps g Z M H' vs ds := r.moved x.mv
theorem RepO.ext (x : Ext H H') {v : V} {s : Sl} {as : List Addr} (r : RepO g Z M H v s as) : RepO g Z M H' v s as := r.moved x.mv (fun _ _ z => z)
theorem RepOs.ext (x : Ext H H') {vs : List V} {ss : List Sl} {as : List Addr} (r : RepOs g Z M H vs ss as) : RepOs g Z M H' vs ss as := r.moved x.mv (fun _ _ z => z)
/-! other owners: what is asked of a stable list's address stays true -/
mutual
theorem Rep.re {Z' : Addr → Prop} (hM : ∀ a, H a ≠ none → ¬ M a → ¬ M' a) (hZ : ∀ a, H a ≠ none → ¬ M a → ¬ Z a → ¬ Z' a) : ∀ {v : V} {d : D}, Rep g Z M H v d → Rep g Z' M' H v d
  | _, _, .non => .non
  | _, _, .bl b => .bl b
  | _, _, .int i => .int i
  | _, _, .str s => .str s
  | _, _, .ty n => .ty n
  | _, _, .fn h => .fn h
  | _, _, .tup h r => .tup h (r.re hM hZ)
  | _, .lst st _, .lst l r => .lst (LT.imp (P := fun a => ¬ M a ∧ (st = true → ¬ Z a)) (fun a e p => ⟨hM a e p.1, fun z => hZ a e p.1 (p.2 z)⟩) l) (r.re hM hZ)
  | _, _, .dct e n w r => .dct e n w (r.re hM hZ)
theorem Reps.re {Z' : Addr → Prop} (hM : ∀ a, H a ≠ none → ¬ M a → ¬ M' a) (hZ : ∀ a, H a ≠ none → ¬ M a → ¬ Z a → ¬ Z' a) : ∀ {vs : List V} {ds : List D}, Reps g Z M H vs ds → Reps g Z' M' H vs ds
  | _, _, .nil => .nil
  | _, _, .cons r rs => .cons (r.re hM hZ) (rs.re hM hZ)
end
mutual
theorem RepO.re {Z' : Addr → Prop} (hM : ∀ a, H a ≠ none → ¬ M a → ¬ M' a) (hZ : ∀ a, H a ≠ none → ¬ M a → ¬ Z a → ¬ Z' a) : ∀ {v : V} {s : Sl} {as : List Addr}, RepO g Z M H v s as → RepO g Z' M' H v s as
  | _, _, _, .v r => .v (r.re hM hZ)
  | _, _, _, .l e r => .l e (r.re hM hZ)
  | _, _, _, .t h r => .t h (r.re hM hZ)
  | _, _, _, .o e h n w r => .o e h n w (r.re hM hZ)
  | _, _, _, .ll e r => .ll e (r.re hM hZ)
theorem RepOs.re {Z' : Addr → Prop} (hM : ∀ a, H a ≠ none → ¬ M a → ¬ M' a) (hZ : ∀ a, H a ≠ none → ¬ M a → ¬ Z a → ¬ Z' a) : ∀ {vs : List V} {ss : List Sl} {as : List Addr}, RepOs g Z M H vs ss as → RepOs g Z' M' H vs ss as
  | _, _, _, .nil => .nil
  | _, _, _, .cons r rs => .cons (r.re hM hZ) (rs.re hM hZ)
end
mutual
/-- what may be handed back: M' may also own what is not there yet, Z' what the callers own -/
theorem Rep.back {Z' : Addr → Prop} (hM : ∀ a, H a ≠ none → ¬ M a → ¬ Z a → ¬ M' a) (hZ : ∀ a, H a ≠ none → ¬ M a → ¬ Z a → ¬ Z' a) : ∀ {v : V} {d : D}, Rep g Z M H v d → retOk d = true → Rep g Z' M' H v d
  | _, _, .non, _ => .non
  | _, _, .bl b, _ => .bl b
  | _, _, .int i, _ => .int i
  | _, _, .str s, _ => .str s
  | _, _, .ty n, _ => .ty n
  | _, _, .fn h, _ => .fn h
  | _, _, .tup h r, k => .tup h (r.back hM hZ (by simpa [retOk] using k))
  | _, .lst st ds, .lst l r, k => by
    have k' : st = true ∧ retOks ds = true := by simpa [retOk] using k
    exact .lst (LT.imp (P := fun a => ¬ M a ∧ (st = true → ¬ Z a)) (fun a e p => ⟨hM a e p.1 (p.2 k'.1), fun z => hZ a e p.1 (p.2 z)⟩) l) (r.back hM hZ k'.2)
  | _, _, .dct e n w r, k => .dct e n w (r.back hM hZ (by simpa [retOk] using k))
theorem Reps.back {Z' : Addr → Prop} (hM : ∀ a, H a ≠ none → ¬ M a → ¬ Z a → ¬ M' a) (hZ : ∀ a, H a ≠ none → ¬ M a → ¬ Z a → ¬ Z' a) : ∀ {vs : List V} {ds : List D}, Reps g Z M H vs ds → retOks ds = true → Reps g Z' M' H vs ds
  | _, _, .nil, _ => .nil
  | _, d :: ds, .cons r rs, k => by
    have k' : retOk d = true ∧ retOks ds = true := by simpa [retOks] using k
    exact .cons (r.back hM hZ k'.1) (rs.back hM hZ k'.2)
end
mutual
theorem RepO.back {Z' : Addr → Prop} (hM : ∀ a, H a ≠ none → ¬ M a → ¬ Z a → ¬ M' a) (hZ : ∀ a, H a ≠ none → ¬ M a → ¬ Z a → ¬ Z' a) : ∀ {v : V} {s : Sl} {as : List Addr}, RepO g Z M H v s as → retSl s = true → RepO g Z' M' H v s as
  | _, _, _, .v r, k => .v (r.back hM hZ (by simpa [retSl] using k))
  | _, _, _, .l e r, k => .l e (r.back hM hZ (by simpa [retSl] using k))
  | _, _, _, .t h r, k => .t h (r.back hM hZ (by simpa [retSl] using k))
  | _, _, _, .o e h n w r, k => .o e h n w (r.back hM hZ (by simpa [retSl] using k))
  | _, _, _, .ll e r, k => .ll e (r.back hM hZ (by simpa [retSl] using k))
theorem RepOs.back {Z' : Addr → Prop} (hM : ∀ a, H a ≠ none → ¬ M a → ¬ Z a → ¬ M' a) (hZ : ∀ a, H a ≠ none → ¬ M a → ¬ Z a → ¬ Z' a) : ∀ {vs : List V} {ss : List Sl} {as : List Addr}, RepOs g Z M H vs ss as → retSls ss = true → RepOs g Z' M' H vs ss as
  | _, _, _, .nil, _ => .nil
  | _, s :: ss, _, .cons r rs, k => by
    have k' : retSl s = true ∧ retSls ss = true := by simpa [retSls] using k
    exact .cons (r.back hM hZ k'.1) (rs.back hM hZ k'.2)
end
mutual
theorem RepO.freeze : ∀ {v : V} {s : Sl} {as : List Addr} {d : D}, RepO g Z M H v s as → frSl s = some d → (∀ a ∈ as, ¬ M a ∧ ¬ Z a) → Rep g Z M H v d
  | _, _, _, _, .v r, e, _ => by
    rw [frSl] at e; cases e; exact r
  | _, _, _, _, .l h r, e, hs => by
    rw [frSl] at e; cases e; exact .lst (.inl ⟨h, (hs _ (by simp)).1, fun _ => (hs _ (by simp)).2⟩) r
  | _, .t ss, _, _, .t h r, e, hs => by
    rw [frSl] at e
    cases q : frSls ss with
    | none => rw [q] at e; cases e
    | some ds => rw [q] at e; cases e; exact .tup h (r.freeze q hs)
  | _, _, _, _, .o _ _ _ _ _, e, _ => by rw [frSl] at e; cases e
  | _, .ll ss, _, _, .ll h r, e, hs => by
    rw [frSl] at e
    cases q : frSls ss with
    | none => rw [q] at e; cases e
    | some ds => rw [q] at e; cases e; exact .lst (.inl ⟨h, (hs _ List.mem_cons_self).1, fun _ => (hs _ List.mem_cons_self).2⟩) (r.freeze q fun a h => hs a (List.mem_cons_of_mem _ h))
theorem RepOs.freeze : ∀ {vs : List V} {ss : List Sl} {as : List Addr} {ds : List D}, RepOs g Z M H vs ss as → frSls ss = some ds → (∀ a ∈ as, ¬ M a ∧ ¬ Z a) → Reps g Z M H vs ds
  | _, _, _, _, .nil, e, _ => by rw [frSls] at e; cases e; exact .nil
  | _, s :: ss, _, _, .cons r rs, e, hs => by
    rw [frSls] at e
    cases q : frSl s with
    | none => rw [q] at e; cases e
    | some d =>
      cases q2 : frSls ss with
      | none => rw [q, q2] at e; cases e
      | some ds =>
        rw [q, q2] at e; cases e
        exact .cons (r.freeze q fun a h => hs a (List.mem_append_left _ h)) (rs.freeze q2 fun a h => hs a (List.mem_append_right _ h))
end
theorem Reps.length : ∀ {vs : List V} {ds : List D}, Reps g Z M H vs ds → vs.length = ds.length
  | _, _, .nil => rfl
  | _, _, .cons _ rs => by rw [List.length_cons, List.length_cons, rs.length]
theorem Reps.get : ∀ {vs : List V} {ds : List D} {i : Nat} {d : D}, Reps g Z M H vs ds → ds[i]? = some d → ∃ v, vs[i]? = some v ∧ Rep g Z M H v d
  | _, _, _, _, .nil, e => by simp at e
  | _, _, 0, _, .cons r _, e => by simp at e; subst e; exact ⟨_, rfl, r⟩
  | _, _, i + 1, d, .cons _ rs, e => by
    obtain ⟨v, h1, h2⟩ := rs.get (i := i) (d := d) (by simpa using e)
    exact ⟨v, by simpa using h1, h2⟩
theorem Reps.append : ∀ {vs : List V} {ds : List D} {vs' : List V} {ds' : List D}, Reps g Z M H vs ds → Reps g Z M H vs' ds' → Reps g Z M H (vs ++ vs') (ds ++ ds')
  | _, _, _, _, .nil, q => q
  | _, _, _, _, .cons r rs, q => .cons r (rs.append q)
theorem Reps.take : ∀ (n : Nat) {vs : List V} {ds : List D}, Reps g Z M H vs ds → Reps g Z M H (vs.take n) (ds.take n)
  | 0, _, _, _ => by rw [List.take_zero, List.take_zero]; exact .nil
  | _ + 1, _, _, .nil => .nil
  | n + 1, _, _, .cons r rs => .cons r (rs.take n)
theorem Reps.drop : ∀ (n : Nat) {vs : List V} {ds : List D}, Reps g Z M H vs ds → Reps g Z M H (vs.drop n) (ds.drop n)
  | 0, _, _, r => r
  | _ + 1, _, _, .nil => .nil
  | n + 1, _, _, .cons _ rs => rs.drop n
theorem Reps.set {v : V} {d : D} (r : Rep g Z M H v d) : ∀ (i : Nat) {vs : List V} {ds : List D}, Reps g Z M H vs ds → Reps g Z M H (vs.set i v) (ds.set i d)
  | _, _, _, .nil => .nil
  | 0, _, _, .cons _ rs => .cons r rs
  | i + 1, _, _, .cons q rs => .cons q (Reps.set r i rs)
end
end VS
set_option Elab.async false
set_option linter.all false
set_option maxRecDepth 100000
set_option maxHeartbeats 4000000
/-! VS2: states, what an expression does to data (EJ). Own work. -/
namespace VS
open PySem PySem.Spec PyProof.Rows
open L2 (V Hp HO upd SqL SqT Rd Cx TE TT TA TS VK XK WX PE PT PA PS PSs)
/-- what an expression yields: shared data; a look at an owned list; something new, owned by nobody yet -/
inductive EV where
  | v (d : D)
  | b (ds : List D)
  | m (s : Sl)
  | p (i : Nat)
/-- an exception: its class's name, its fields -/
structure Exc where
  cn : Str
  ns : List Str
  ds : List D
abbrev Rho := List Sl
inductive RepS (g : Ge) (Z : Addr → Prop) (M : Addr → Prop) (H : Hp) : L2.St → Rho → List Addr → Prop
  | nil : RepS g Z M H [] [] []
  | no {x : Option V} {σ : L2.St} {ρ : Rho} {as : List Addr} : RepS g Z M H σ ρ as → RepS g Z M H (x :: σ) (.no :: ρ) as
  | yes {v : V} {s : Sl} {σ : L2.St} {ρ : Rho} {as bs : List Addr} : RepO g Z M H v s as → RepS g Z M H σ ρ bs → RepS g Z M H (some v :: σ) (s :: ρ) (as ++ bs)
/-- a def's run: K and the globals; Z: what the callers own; the heap at its entry; what it may change of what it was handed -/
structure Fr where
  g : Ge
  Z : Addr → Prop
  H0 : Hp
  io : List Addr
  zd : ∀ a, Z a → H0 a ≠ none
  zi : ∀ a ∈ io, ¬ Z a
  /-- the slots of what it was handed to change; they keep what they hold -/
  mask : List Bool
  s0 : L2.St
/-- the slots hold ρ; M: all that is owned, T: that which is owned by values on their way -/
structure SR (c : Fr) (M : Addr → Prop) (T : List Addr) (σ : L2.St) (H : Hp) (ρ : Rho) : Prop where
  slots : ∃ Ms, RepS c.g c.Z M H σ ρ Ms ∧ (Ms ++ T).Nodup ∧ ∀ a ∈ Ms ++ T, M a
  ty : ∀ a, M a → Typed H a
  src : ∀ a, M a → a ∈ c.io ∨ c.H0 a = none
  keep : ∀ b o, c.H0 b = some o → b ∉ c.io → H b = some o
  pin : ∀ j : Nat, c.mask[j]? = some true → σ[j]? = c.s0[j]?
  ln : σ.length = c.s0.length
structure Post (c : Fr) (p : Bool) (σ : L2.St) (M : Addr → Prop) (T : List Addr) (H : Hp) (M' : Addr → Prop) (T' : List Addr) (H' : Hp) (ρ' : Rho) : Prop where
  sr : SR c M' T' σ H' ρ'
  keep : ∀ b o, H b = some o → (M b → b ∈ T) → H' b = some o
  new : ∀ a, M' a → M a ∨ H a = none
  pu : p = true → Ext H H'
/-- v stands for what was yielded; as: what it owns -/
inductive VRg (g : Ge) (Z : Addr → Prop) (M : Addr → Prop) (H : Hp) : V → EV → List Addr → Prop
  | v {v : V} {d : D} : Rep g Z M H v d → VRg g Z M H v (.v d) []
  | b {a : Addr} {vs : List V} {ds : List D} : H a = some (.lst vs) → Reps g Z M H vs ds → VRg g Z M H (.ref a) (.b ds) []
  | m {v : V} {s : Sl} {as : List Addr} : RepO g Z M H v s as → VRg g Z M H v (.m s) as
abbrev VR (c : Fr) := VRg c.g c.Z
inductive XRg (g : Ge) (Z : Addr → Prop) (M : Addr → Prop) (H : Hp) : Value → Option Addr → Exc → Prop
  | no {C : Addr} {cn : Str} : g.mg cn = some (.ref C) → XRg g Z M H (.ref C) none ⟨cn, [], []⟩
  | yes {C d : Addr} {cn : Str} {fs : List (Str × V)} {ns : List Str} {vs : List V} {ds : List D} : g.mg cn = some (.ref C) → H d = some (.xd fs) → fs.map (·.1) = ns → fs.map (·.2) = vs → Reps g Z M H vs ds → XRg g Z M H (.ref C) (some d) ⟨cn, ns, ds⟩
abbrev XRep (c : Fr) := XRg c.g c.Z
abbrev ES := Rho → (EV → Rho → Prop) → (Exc → Rho → Prop) → Prop
section
variable {c : Fr} {p p1 p2 : Bool} {σ : L2.St} {M M1 M2 M' : Addr → Prop} {T T1 T2 T' : List Addr} {H H1 H2 H' : Hp} {ρ ρ1 ρ2 ρ' : Rho} {W : WX}
theorem SR.drop {as : List Addr} (s : SR c M (as ++ T) σ H ρ) : SR c M T σ H ρ := by
  obtain ⟨Ms, r, nd, al⟩ := s.slots
  refine ⟨⟨Ms, r, ?_, fun a h => al a ?_⟩, s.ty, s.src, s.keep, s.pin, s.ln⟩
  · exact nd.sublist (List.Sublist.append (List.Sublist.refl _) (List.sublist_append_right _ _))
  · rcases List.mem_append.mp h with h | h
    · exact List.mem_append_left _ h
    · exact List.mem_append_right _ (List.mem_append_right _ h)
theorem Post.drop {as : List Addr} (q : Post c p σ M T H M' (as ++ T') H' ρ') : Post c p σ M T H M' T' H' ρ' := ⟨q.sr.drop, q.keep, q.new, q.pu⟩
theorem Post.refl (s : SR c M T σ H ρ) : Post c p σ M T H M T H ρ := ⟨s, fun _ _ h _ => h, fun _ h => .inl h, fun _ => Ext.refl _⟩
theorem Post.trans {σ0 : L2.St} (a : Post c p1 σ0 M T H M1 T1 H1 ρ1) (b : Post c p2 σ M1 T1 H1 M2 T2 H2 ρ2) (ht : ∀ x ∈ T, x ∈ T1) : Post c (p1 && p2) σ M T H M2 T2 H2 ρ2 := by
  have k : ∀ b o, H b = some o → (M b → b ∈ T) → (M1 b → b ∈ T1) := fun x o e h m => by
    rcases a.new x m with z | z
    · exact ht x (h z)
    · rw [e] at z; cases z
  refine ⟨b.sr, fun x o e h => b.keep x o (a.keep x o e h) (k x o e h), fun x m => ?_, fun e => ?_⟩
  · rcases b.new x m with z | z
    · exact a.new x z
    · by_cases hm : M x
      · exact .inl hm
      · refine .inr ?_
        cases q : H x with
        | none => rfl
        | some o => rw [a.keep x o q fun y => absurd y hm] at z; cases z
  · rw [Bool.and_eq_true] at e
    exact (a.pu e.1).trans (b.pu e.2)
theorem Post.weak (a : Post c p σ M T H M' T' H' ρ') : Post c false σ M T H M' T' H' ρ' := ⟨a.sr, a.keep, a.new, fun e => nomatch e⟩
theorem Post.mv {σ' : L2.St} (s : SR c M T σ H ρ) (q : Post c p σ' M T H M' T' H' ρ') : Moved (fun a => M a ∧ a ∉ T) M M' H H' :=
  ⟨fun b o e h => q.keep b o e fun m => Classical.byContradiction fun z => h ⟨m, z⟩, fun a h => s.ty a h.1, fun a h => h.1, q.new⟩
/-- what was yielded before stands: but a look at an owned list only where nothing was changed -/
def okB (p : Bool) : EV → Prop
  | .b _ => p = true
  | _ => True
theorem VR.next {v : V} {x : EV} {as : List Addr} (r : VR c M H v x as) {σ' : L2.St} (s : SR c M T σ H ρ) (q : Post c p σ' M T H M' T' H' ρ') (ht : ∀ a ∈ as, a ∈ T) (ok : okB p x) : VR c M' H' v x as := by
  have m := q.mv s
  cases r with
  | v r => exact .v (r.moved m)
  | b l r => exact .b (q.pu ok _ _ l) (r.moved m)
  | m r => exact .m (r.moved m fun a h z => z.2 (ht a h))
theorem RepS.len {g : Ge} {Z : Addr → Prop} : ∀ {σ : L2.St} {ρ : Rho} {as : List Addr}, RepS g Z M H σ ρ as → σ.length = ρ.length
  | _, _, _, .nil => rfl
  | _, _, _, .no r => by rw [List.length_cons, List.length_cons, r.len]
  | _, _, _, .yes _ r => by rw [List.length_cons, List.length_cons, r.len]
theorem RepS.moved {g : Ge} {Z : Addr → Prop} {ch : Addr → Prop} (m : Moved ch M M' H H') : ∀ {σ : L2.St} {ρ : Rho} {as : List Addr}, RepS g Z M H σ ρ as → (∀ a ∈ as, ¬ ch a) → RepS g Z M' H' σ ρ as
  | _, _, _, .nil, _ => .nil
  | _, _, _, .no r, h => .no (r.moved m h)
  | _, _, _, .yes q r, h => .yes (q.moved m fun a z => h a (List.mem_append_left _ z)) (r.moved m fun a z => h a (List.mem_append_right _ z))
/-- a new object -/
theorem SR.ext (s : SR c M T σ H ρ) (x : Ext H H') : SR c M T σ H' ρ := by
  obtain ⟨Ms, r, nd, al⟩ := s.slots
  refine ⟨⟨Ms, r.moved x.mv (fun _ _ z => z), nd, al⟩, fun a h => ?_, s.src, fun b o e hb => x b o (s.keep b o e hb), s.pin, s.ln⟩
  rcases s.ty a h with ⟨_, e⟩ | ⟨_, _, _, e⟩
  · exact .inl ⟨_, x _ _ e⟩
  · exact .inr ⟨_, _, _, x _ _ e⟩
theorem Post.ext (s : Post c p σ M T H M' T' H' ρ') (x : Ext H' H2) : Post c p σ M T H M' T' H2 ρ' := ⟨s.sr.ext x, fun b o e h => x b o (s.keep b o e h), s.new, fun e => (s.pu e).trans x⟩
end
/-- what e does: f; p: it changes nothing that was there -/
def rdE (c : Fr) (W : WX) (p : Bool) (f : ES) : TE := fun σ H Q => ∃ ρ M T, SR c M T σ H ρ ∧
  f ρ (fun ev ρ' => ∀ v H' M' as, Post c p σ M T H M' (as ++ T) H' ρ' → VR c M' H' v ev as → Q v H')
    (fun x ρ' => ∀ cls dd H' M', Post c false σ M T H M' T H' ρ' → XRep c M' H' cls dd x → W cls dd σ H')
def Mono (f : ES) : Prop := ∀ ρ K K' E E', (∀ x ρ', K x ρ' → K' x ρ') → (∀ x ρ', E x ρ' → E' x ρ') → f ρ K E → f ρ K' E'
structure EJ (X : Cx) (c : Fr) (W : WX) (p : Bool) (e : Expr) (f : ES) : Prop where
  mono : Mono f
  run : PE X e (rdE c W p f)
theorem PE.imp {X : Cx} {e : Expr} {t t' : TE} (h : PE X e t) (i : ∀ σ H Q, t' σ H Q → t σ H Q) : PE X e t' := ⟨fun pins s σ H Q I q => h.run pins s σ H Q I (i σ H Q q)⟩
/-- two in a row -/
def bin (p2 : Bool) (f g : ES) (R : EV → EV → (EV → Rho → Prop) → (Exc → Rho → Prop) → Rho → Prop) : ES := fun ρ K E => f ρ (fun x ρ1 => g ρ1 (fun y ρ2 => okB p2 x ∧ R x y K E ρ2) E) E
theorem Mono.bin {p2 : Bool} {f g : ES} {R : EV → EV → (EV → Rho → Prop) → (Exc → Rho → Prop) → Rho → Prop} (hf : Mono f) (hg : Mono g) (hR : ∀ x y ρ K K' E E', (∀ x ρ', K x ρ' → K' x ρ') → (∀ x ρ', E x ρ' → E' x ρ') → R x y K E ρ → R x y K' E' ρ) :
    Mono (bin p2 f g R) := fun ρ K K' E E' hk he => hf _ _ _ _ _ (fun x ρ1 h => hg _ _ _ _ _ (fun y ρ2 ⟨o, q⟩ => ⟨o, hR _ _ _ _ _ _ _ hk he q⟩) he h) he
section
variable {X : Cx} {c : Fr} {W : WX} {p p1 p2 : Bool} {a b : Expr} {f g : ES} {R : EV → EV → (EV → Rho → Prop) → (Exc → Rho → Prop) → Rho → Prop} {Tm : V → V → Hp → VK → Prop}
theorem seq2 (hf : Mono f) (hg : Mono g)
    (hR : ∀ σ M T H M2 H2 ρ2 as1 as2 v u x y Q E, Post c (p1 && p2) σ M T H M2 (as2 ++ (as1 ++ T)) H2 ρ2 → VR c M2 H2 v x as1 → VR c M2 H2 u y as2 →
      R x y (fun ev ρ' => ∀ v H' M' as, Post c (p1 && p2) σ M T H M' (as ++ T) H' ρ' → VR c M' H' v ev as → Q v H') E ρ2 → Tm v u H2 Q) :
    ∀ σ H Q, rdE c W (p1 && p2) (bin p2 f g R) σ H Q → rdE c W p1 f σ H (fun v H1 => rdE c W p2 g σ H1 (fun u H2 => Tm v u H2 Q)) := by
  rintro σ H Q ⟨ρ, M, T, s, h⟩
  refine ⟨ρ, M, T, s, hf _ _ _ _ _ (fun x ρ1 h v H1 M1 as1 q1 r1 => ?_) (fun _ _ h => h) h⟩
  have ht : ∀ x ∈ T, x ∈ as1 ++ T := fun x hx => List.mem_append_right _ hx
  have k1 : ∀ y ρ2, (okB p2 x ∧ R x y (fun ev ρ' => ∀ v H' M' as, Post c (p1 && p2) σ M T H M' (as ++ T) H' ρ' → VR c M' H' v ev as → Q v H')
      (fun x ρ' => ∀ cls dd H' M', Post c false σ M T H M' T H' ρ' → XRep c M' H' cls dd x → W cls dd σ H') ρ2) →
      ∀ u H2 M2 as2, Post c p2 σ M1 (as1 ++ T) H1 M2 (as2 ++ (as1 ++ T)) H2 ρ2 → VR c M2 H2 u y as2 → Tm v u H2 Q := fun y ρ2 k u H2 M2 as2 q2 r2 =>
    hR σ M T H M2 H2 ρ2 as1 as2 v u x y Q _ (q1.trans q2 ht) (r1.next q1.sr q2 (fun a ha => List.mem_append_left _ ha) k.1) r2 k.2
  exact ⟨ρ1, M1, as1 ++ T, q1.sr, hg _ _ _ _ _ k1 (fun x ρ2 h cls dd H2 M2 q2 r2 => h cls dd H2 M2 (q1.trans q2 ht).weak.drop r2) h⟩
/-- two operands, then an operation on values -/
theorem ej_bin {e : Expr} (ha : EJ X c W p1 a f) (hb : EJ X c W p2 b g) (ht : PE X a (rdE c W p1 f) → PE X b (rdE c W p2 g) → PE X e (fun σ H Q => rdE c W p1 f σ H (fun v H1 => rdE c W p2 g σ H1 (fun u H2 => Tm v u H2 Q))))
    (hM : ∀ x y ρ K K' E E', (∀ x ρ', K x ρ' → K' x ρ') → (∀ x ρ', E x ρ' → E' x ρ') → R x y K E ρ → R x y K' E' ρ)
    (hR : ∀ σ M T H M2 H2 ρ2 as1 as2 v u x y Q E, Post c (p1 && p2) σ M T H M2 (as2 ++ (as1 ++ T)) H2 ρ2 → VR c M2 H2 v x as1 → VR c M2 H2 u y as2 →
      R x y (fun ev ρ' => ∀ v H' M' as, Post c (p1 && p2) σ M T H M' (as ++ T) H' ρ' → VR c M' H' v ev as → Q v H') E ρ2 → Tm v u H2 Q) :
    EJ X c W (p1 && p2) e (bin p2 f g R) := ⟨Mono.bin ha.mono hb.mono hM, PE.imp (ht ha.run hb.run) (seq2 ha.mono hb.mono hR)⟩
end
/-! ### constants and names -/
def cE (d : D) : ES := fun ρ K _ => K (.v d) ρ
/-- a name that holds shared data -/
def vE (i : Nat) : ES := fun ρ K _ => match ρ[i]? with
  | some (.v d) => K (.v d) ρ
  | _ => False
/-- a look at an owned list -/
def bE (i : Nat) : ES := fun ρ K _ => match ρ[i]? with
  | some (.l ds) => K (.b ds) ρ
  | _ => False
/-- an owned thing that is owned no more: from here on nobody changes it -/
def fE (i : Nat) : ES := fun ρ K _ => match ρ[i]? with
  | some s => (match frSl s with
    | some d => K (.v d) (ρ.set i (.v d))
    | none => False)
  | _ => False
/-- an owned thing handed on: the name is empty from here on -/
def mE (i : Nat) : ES := fun ρ K _ => match ρ[i]? with
  | some .no => False
  | some s => K (.m s) (ρ.set i .no)
  | _ => False
section
variable {X : Cx} {c : Fr} {W : WX} {M M' : Addr → Prop} {T : List Addr} {σ : L2.St} {H H' : Hp} {ρ : Rho}
theorem RepS.get {g : Ge} {Z : Addr → Prop} : ∀ {σ : L2.St} {ρ : Rho} {Ms : List Addr} {i : Nat} {s : Sl}, RepS g Z M H σ ρ Ms → ρ[i]? = some s → s ≠ .no → ∃ v as, σ[i]? = some (some v) ∧ RepO g Z M H v s as ∧ ∀ a ∈ as, a ∈ Ms
  | _, _, _, _, _, .nil, e, _ => by simp at e
  | _, _, _, 0, _, .no _, e, n => by simp at e; exact absurd e.symm n
  | _, _, _, 0, _, .yes q _, e, _ => by simp at e; subst e; exact ⟨_, _, rfl, q, fun a h => List.mem_append_left _ h⟩
  | _, _, _, i + 1, s, .no r, e, n => by
    obtain ⟨v, as, h1, h2, h3⟩ := r.get (i := i) (s := s) (by simpa using e) n
    exact ⟨v, as, by simpa using h1, h2, h3⟩
  | _, _, _, i + 1, s, .yes _ r, e, n => by
    obtain ⟨v, as, h1, h2, h3⟩ := r.get (i := i) (s := s) (by simpa using e) n
    exact ⟨v, as, by simpa using h1, h2, fun a h => List.mem_append_right _ (h3 a h)⟩
theorem Post.same (s : SR c M T σ H ρ) {p : Bool} : Post c p σ M T H M ([] ++ T) H ρ := Post.refl s
theorem ej_int {i : Int} {j pos} : EJ X c W true (.Constant (.int i) j pos) (cE (.int i)) := ⟨fun ρ K K' E E' hk _ h => hk _ _ h, PE.imp L2.pe_int fun σ H Q ⟨ρ, M, T, s, h⟩ => h _ H M [] (Post.same s) (.v (.int i))⟩
theorem ej_bl {b : Bool} {j pos} : EJ X c W true (.Constant (.bool b) j pos) (cE (.bl b)) := ⟨fun ρ K K' E E' hk _ h => hk _ _ h, PE.imp L2.pe_bl fun σ H Q ⟨ρ, M, T, s, h⟩ => h _ H M [] (Post.same s) (.v (.bl b))⟩
theorem ej_non {j pos} : EJ X c W true (.Constant .none j pos) (cE .non) := ⟨fun ρ K K' E E' hk _ h => hk _ _ h, PE.imp L2.pe_non fun σ H Q ⟨ρ, M, T, s, h⟩ => h _ H M [] (Post.same s) (.v .non)⟩
theorem ej_str {x : Str} {j pos} : EJ X c W true (.Constant (.str x) j pos) (cE (.str x)) := ⟨fun ρ K K' E E' hk _ h => hk _ _ h, PE.imp L2.pe_str fun σ H Q ⟨ρ, M, T, s, h⟩ => h _ H M [] (Post.same s) (.v (.str x))⟩
/-- a constant of the module -/
theorem ej_glob {x : Str} {v : V} {d : D} {u : Value} {pos : Pos} (hg : L2.Gl X x) (hm : X.mg x = some u) (r : L2.RelV v u) (hr : ∀ (Z : Addr → Prop) (M : Addr → Prop) (H : Hp), Rep c.g Z M H v d) (hd : (x == ("__debug__" : Str)) = false := by decide) : EJ X c W true (.Name x pos) (cE d) :=
  ⟨fun ρ K K' E E' hk _ h => hk _ _ h, PE.imp (L2.pe_glob hg hm r hd) fun σ H Q ⟨ρ, M, T, s, h⟩ => h v H M [] (Post.same s) (.v (hr _ M H))⟩
theorem SR.read (s : SR c M T σ H ρ) {i : Nat} {x : Sl} (e : ρ[i]? = some x) (n : x ≠ .no) : ∃ v as, σ[i]? = some (some v) ∧ RepO c.g c.Z M H v x as ∧ (∀ a ∈ as, M a ∧ a ∉ T) := by
  obtain ⟨Ms, r, nd, al⟩ := s.slots
  obtain ⟨v, as, h1, h2, h3⟩ := r.get e n
  exact ⟨v, as, h1, h2, fun a h => ⟨al a (List.mem_append_left _ (h3 a h)), fun z => (List.nodup_append.mp nd).2.2 a (h3 a h) a z rfl⟩⟩
theorem ej_v {i : Nat} {e : Expr} (he : PE X e (L2.tVar i)) : EJ X c W true e (vE i) := by
  refine ⟨fun ρ K K' E E' hk _ h => ?_, PE.imp he fun σ H Q ⟨ρ, M, T, s, h⟩ => ?_⟩
  · unfold vE at h ⊢
    split at h
    · exact hk _ _ h
    · exact h
  · unfold vE at h
    split at h
    · rename_i d e
      obtain ⟨v, as, h1, h2, _⟩ := s.read e (by simp)
      cases h2 with
      | v r => exact ⟨v, h1, h v H M [] (Post.same s) (.v r)⟩
    · exact h.elim
/-- a slot gets something else: what it owned is owned by nobody, what comes is owned by it -/
theorem RepS.put {g : Ge} {Z : Addr → Prop} {v : V} {s : Sl} {as : List Addr} (q : RepO g Z M H v s as) : ∀ {σ : L2.St} {ρ : Rho} {Ms : List Addr} {i : Nat}, RepS g Z M H σ ρ Ms → i < ρ.length →
    ∃ Ms', RepS g Z M H (σ.set i (some v)) (ρ.set i s) Ms' ∧ (∀ a ∈ Ms', a ∈ Ms ∨ a ∈ as) ∧ (Ms.Nodup → as.Nodup → (∀ a ∈ as, a ∉ Ms) → Ms'.Nodup)
  | _, _, _, _, .nil, h => absurd h (by simp)
  | _ :: σ, _ :: ρ, Ms, 0, .no r, h => ⟨as ++ Ms, .yes q r, fun a h => (List.mem_append.mp h).symm, fun n1 n2 n3 => List.nodup_append.mpr ⟨n2, n1, fun a ha b hb e => n3 a ha (e ▸ hb)⟩⟩
  | some u :: σ, _ :: ρ, _, 0, .yes (as := bs) (bs := cs) _ r, h => ⟨as ++ cs, .yes q r, fun a h => by
      rcases List.mem_append.mp h with h | h
      · exact .inr h
      · exact .inl (List.mem_append_right _ h), fun n1 n2 n3 => List.nodup_append.mpr ⟨n2, (List.nodup_append.mp n1).2.1, fun a ha b hb e => n3 a ha (e ▸ List.mem_append_right _ hb)⟩⟩
  | _ :: σ, _ :: ρ, Ms, i + 1, .no r, h => by
    obtain ⟨Ms', h1, h2, h3⟩ := r.put q (i := i) (by simpa using h)
    exact ⟨Ms', .no h1, h2, h3⟩
  | some u :: σ, s' :: ρ, _, i + 1, .yes (as := bs) (bs := cs) o r, h => by
    obtain ⟨Ms', h1, h2, h3⟩ := r.put q (i := i) (by simpa using h)
    refine ⟨bs ++ Ms', .yes o h1, fun a h => ?_, fun n1 n2 n3 => ?_⟩
    · rcases List.mem_append.mp h with h | h
      · exact .inl (List.mem_append_left _ h)
      · rcases h2 a h with h | h
        · exact .inl (List.mem_append_right _ h)
        · exact .inr h
    · obtain ⟨m1, m2, m3⟩ := List.nodup_append.mp n1
      refine List.nodup_append.mpr ⟨m1, h3 m2 n2 fun a ha z => n3 a ha (List.mem_append_right _ z), fun a ha b hb e => ?_⟩
      subst e
      rcases h2 a hb with z | z
      · exact m3 a ha a z rfl
      · exact n3 a z (List.mem_append_left _ ha)
/-- a slot is emptied: what it owned -/
theorem RepS.out {g : Ge} {Z : Addr → Prop} : ∀ {σ : L2.St} {ρ : Rho} {Ms : List Addr} {i : Nat} {s : Sl}, RepS g Z M H σ ρ Ms → ρ[i]? = some s → s ≠ .no →
    ∃ v as Ms', σ[i]? = some (some v) ∧ RepO g Z M H v s as ∧ RepS g Z M H σ (ρ.set i .no) Ms' ∧ (∀ a ∈ as, a ∈ Ms) ∧ (∀ a ∈ Ms', a ∈ Ms) ∧ (Ms.Nodup → as.Nodup ∧ Ms'.Nodup ∧ ∀ a ∈ as, a ∉ Ms')
  | _, _, _, _, _, .nil, e, _ => by simp at e
  | _, _, _, 0, _, .no _, e, n => by simp at e; exact absurd e.symm n
  | _, _, _, 0, _, .yes (as := bs) (bs := cs) q r, e, _ => by
    simp at e
    subst e
    exact ⟨_, bs, cs, rfl, q, .no r, fun a h => List.mem_append_left _ h, fun a h => List.mem_append_right _ h, fun n => ⟨(List.nodup_append.mp n).1, (List.nodup_append.mp n).2.1, fun a h z => (List.nodup_append.mp n).2.2 a h a z rfl⟩⟩
  | _, _, _, i + 1, s, .no r, e, n => by
    obtain ⟨v, as, Ms', h1, h2, h3, h4, h5, h6⟩ := r.out (i := i) (s := s) (by simpa using e) n
    exact ⟨v, as, Ms', by simpa using h1, h2, .no h3, h4, h5, h6⟩
  | _, _, _, i + 1, s, .yes (as := bs) (bs := cs) q r, e, n => by
    obtain ⟨v, as, Ms', h1, h2, h3, h4, h5, h6⟩ := r.out (i := i) (s := s) (by simpa using e) n
    refine ⟨v, as, bs ++ Ms', by simpa using h1, h2, .yes q h3, fun a h => List.mem_append_right _ (h4 a h), fun a h => ?_, fun nd => ?_⟩
    · rcases List.mem_append.mp h with h | h
      · exact List.mem_append_left _ h
      · exact List.mem_append_right _ (h5 a h)
    · obtain ⟨m1, m2, m3⟩ := List.nodup_append.mp nd
      obtain ⟨k1, k2, k3⟩ := h6 m2
      refine ⟨k1, List.nodup_append.mpr ⟨m1, k2, fun a ha b hb e => m3 a ha b (h5 b hb) e⟩, fun a ha z => ?_⟩
      rcases List.mem_append.mp z with z | z
      · exact m3 a z a (h4 a ha) rfl
      · exact k3 a ha z
end
end VS
set_option Elab.async false
set_option linter.all false
set_option maxRecDepth 100000
set_option maxHeartbeats 4000000
/-! VS3: names handed on, tests, argument lists, displays, operators. Own work. -/
namespace VS
open PySem PySem.Spec PyProof.Rows
open L2 (V Hp HO upd SqL SqT Rd Cx TE TT TA TS VK XK WX PE PT PA PS PSs)
section
variable {X : Cx} {c : Fr} {W : WX} {M M' : Addr → Prop} {T T' : List Addr} {σ : L2.St} {H H' : Hp} {ρ ρ' : Rho} {p p1 p2 : Bool}
theorem RepS.re {g : Ge} {Z Z' : Addr → Prop} (hM : ∀ a, H a ≠ none → ¬ M a → ¬ M' a) (hZ : ∀ a, H a ≠ none → ¬ M a → ¬ Z a → ¬ Z' a) : ∀ {σ : L2.St} {ρ : Rho} {as : List Addr}, RepS g Z M H σ ρ as → RepS g Z' M' H σ ρ as
  | _, _, _, .nil => .nil
  | _, _, _, .no r => .no (r.re hM hZ)
  | _, _, _, .yes q r => .yes (q.re hM hZ) (r.re hM hZ)
theorem set_get {α : Type} {l : List α} {i : Nat} {x : α} (h : l[i]? = some x) : l.set i x = l := by
  obtain ⟨hi, e⟩ := List.getElem?_eq_some_iff.mp h
  rw [← e]; exact List.set_getElem_self hi
theorem ej_m {i : Nat} {e : Expr} (he : PE X e (L2.tVar i)) : EJ X c W false e (mE i) := by
  refine ⟨fun ρ K K' E E' hk _ h => ?_, PE.imp he fun σ H Q ⟨ρ, M, T, s, h⟩ => ?_⟩
  · unfold mE at h ⊢
    split at h
    · exact h
    · exact hk _ _ h
    · exact h
  · unfold mE at h
    split at h
    · exact h.elim
    · rename_i x hn e
      obtain ⟨Ms, r, nd, al⟩ := s.slots
      obtain ⟨v, as, Ms', h1, h2, h3, h4, h5, h6⟩ := r.out e (fun z => hn z)
      obtain ⟨k1, k2, k3⟩ := h6 (List.nodup_append.mp nd).1
      refine ⟨v, h1, h v H M as ⟨⟨⟨Ms', h3, ?_, fun a ha => ?_⟩, s.ty, s.src, s.keep, s.pin, s.ln⟩, fun _ _ q _ => q, fun _ q => .inl q, fun e => nomatch e⟩ (.m h2)⟩
      · obtain ⟨_, n2, n3⟩ := List.nodup_append.mp nd
        refine List.nodup_append.mpr ⟨k2, List.nodup_append.mpr ⟨k1, n2, fun a ha b hb e => n3 a (h4 a ha) b hb e⟩, fun a ha b hb e => ?_⟩
        rcases List.mem_append.mp hb with hb | hb
        · exact k3 b hb (e ▸ ha)
        · exact n3 a (h5 a ha) b hb e
      · rcases List.mem_append.mp ha with ha | ha
        · exact al a (List.mem_append_left _ (h5 a ha))
        · rcases List.mem_append.mp ha with ha | ha
          · exact al a (List.mem_append_left _ (h4 a ha))
          · exact al a (List.mem_append_right _ ha)
    · exact h.elim
end
/-! ### tests -/
abbrev BS := Rho → (Bool → Rho → Prop) → (Exc → Rho → Prop) → Prop
def MonoB (f : BS) : Prop := ∀ ρ K K' E E', (∀ x ρ', K x ρ' → K' x ρ') → (∀ x ρ', E x ρ' → E' x ρ') → f ρ K E → f ρ K' E'
def rdT (c : Fr) (W : WX) (p : Bool) (f : BS) : TT := fun σ H Q => ∃ ρ M T, SR c M T σ H ρ ∧
  f ρ (fun b ρ' => ∀ H' M', Post c p σ M T H M' T H' ρ' → Q b H')
    (fun x ρ' => ∀ cls dd H' M', Post c false σ M T H M' T H' ρ' → XRep c M' H' cls dd x → W cls dd σ H')
structure TJ (X : Cx) (c : Fr) (W : WX) (p : Bool) (e : Expr) (f : BS) : Prop where
  mono : MonoB f
  run : PT X e (rdT c W p f)
structure WJ (X : Cx) (c : Fr) (W : WX) (p : Bool) (e : Expr) (f : BS) : Prop where
  mono : MonoB f
  run : L2.PW X e (rdT c W p f)
theorem PT.imp {X : Cx} {e : Expr} {t t' : TT} (h : PT X e t) (i : ∀ σ H Q, t' σ H Q → t σ H Q) : PT X e t' := ⟨fun pins s σ H Q I q => h.run pins s σ H Q I (i σ H Q q)⟩
theorem PW.imp {X : Cx} {e : Expr} {t t' : TT} (h : L2.PW X e t) (i : ∀ σ H Q, t' σ H Q → t σ H Q) : L2.PW X e t' := ⟨fun wh pins s σ H Q I q => h.run wh pins s σ H Q I (i σ H Q q)⟩
section
variable {X : Cx} {c : Fr} {W : WX} {p p1 p2 : Bool} {a b : Expr} {f g : BS}
theorem WJ.tj {e : Expr} (h : WJ X c W p e f) : TJ X c W p e f := ⟨h.mono, h.run.pt⟩
/-- a value that is a bool, as a test -/
def bT (f : ES) : BS := fun ρ K E => f ρ (fun x ρ' => match x with
  | .v (.bl b) => K b ρ'
  | _ => False) E
theorem MonoB.bT {f : ES} (hf : Mono f) : MonoB (bT f) := fun ρ K K' E E' hk he h => hf _ _ _ _ _ (fun x ρ' h => by
  split at h
  · exact hk _ _ h
  · exact h) he h
theorem bT_run {f : ES} (hf : Mono f) : ∀ σ H Q, rdT c W p (bT f) σ H Q → rdE c W p f σ H (fun v H1 => ∃ k, v = .bl k ∧ Q k H1) := by
  rintro σ H Q ⟨ρ, M, T, s, h⟩
  refine ⟨ρ, M, T, s, hf _ _ _ _ _ (fun x ρ' h v H' M' as q r => ?_) (fun _ _ h => h) h⟩
  split at h
  · rename_i b
    cases r with
    | v r => cases r; exact ⟨b, rfl, h H' M' q.drop⟩
  · exact h.elim
theorem tj_of {f : ES} {e : Expr} (h : EJ X c W p e f) (ht : PE X e (rdE c W p f) → PT X e (L2.tTest (rdE c W p f))) : TJ X c W p e (bT f) := ⟨MonoB.bT h.mono, PT.imp (ht h.run) (bT_run h.mono)⟩
/-- any expression whose value is a bool: a call, a name .. (not and, or, not, a comparison) -/
theorem tj_val {f : ES} {e : Expr} (h : EJ X c W p e f) (he : ∀ whole, isTrue e X.env whole = (do let v ← whole; standAt e.pos; holding [v] (truthy v)) := by intro _; rfl) : TJ X c W p e (bT f) :=
  tj_of h fun q => L2.pt_val q he
def andT (f g : BS) : BS := fun ρ K E => f ρ (fun b ρ1 => if b = true then g ρ1 K E else K false ρ1) E
def orT (f g : BS) : BS := fun ρ K E => f ρ (fun b ρ1 => if b = true then K true ρ1 else g ρ1 K E) E
def notT (f : BS) : BS := fun ρ K E => f ρ (fun b ρ1 => K (!b) ρ1) E
theorem andT_mono (hf : MonoB f) (hg : MonoB g) : MonoB (andT f g) := fun ρ K K' E E' hk he h => hf _ _ _ _ _ (fun b ρ1 h => by
  split at h
  · rename_i hb; rw [if_pos hb]; exact hg _ _ _ _ _ hk he h
  · rename_i hb; rw [if_neg hb]; exact hk _ _ h) he h
theorem orT_mono (hf : MonoB f) (hg : MonoB g) : MonoB (orT f g) := fun ρ K K' E E' hk he h => hf _ _ _ _ _ (fun b ρ1 h => by
  split at h
  · rename_i hb; rw [if_pos hb]; exact hk _ _ h
  · rename_i hb; rw [if_neg hb]; exact hg _ _ _ _ _ hk he h) he h
theorem Post.left {σ : L2.St} {M M' : Addr → Prop} {T T' : List Addr} {H H' : Hp} {ρ' : Rho} (q : Post c p1 σ M T H M' T' H' ρ') : Post c (p1 && p2) σ M T H M' T' H' ρ' :=
  ⟨q.sr, q.keep, q.new, fun e => q.pu (by rw [Bool.and_eq_true] at e; exact e.1)⟩
theorem wj_and1 {pos : Pos} (h : TJ X c W p a f) : WJ X c W p (.BoolOp .And [a] pos) f := ⟨h.mono, L2.pw_and1 h.run⟩
theorem wj_or1 {pos : Pos} (h : TJ X c W p a f) : WJ X c W p (.BoolOp .Or [a] pos) f := ⟨h.mono, L2.pw_or1 h.run⟩
theorem seqT (hf : MonoB f) (hg : MonoB g) (tf : Bool) (σ : L2.St) (H : Hp) (Q : Bool → Hp → Prop)
    (h : rdT c W (p1 && p2) (if tf then andT f g else orT f g) σ H Q) : rdT c W p1 f σ H (fun b H1 => if b = tf then rdT c W p2 g σ H1 Q else Q (!tf) H1) := by
  obtain ⟨ρ, M, T, s, h⟩ := h
  refine ⟨ρ, M, T, s, ?_⟩
  have go : ∀ (b : Bool) (ρ1 : Rho) (H1 : Hp) (M1 : Addr → Prop), Post c p1 σ M T H M1 T H1 ρ1 → g ρ1 (fun b ρ' => ∀ H' M', Post c (p1 && p2) σ M T H M' T H' ρ' → Q b H')
    (fun x ρ' => ∀ cls dd H' M', Post c false σ M T H M' T H' ρ' → XRep c M' H' cls dd x → W cls dd σ H') → rdT c W p2 g σ H1 Q := fun b ρ1 H1 M1 q h =>
    ⟨ρ1, M1, T, q.sr, hg _ _ _ _ _ (fun b2 ρ2 k H2 M2 q2 => k H2 M2 (q.trans q2 fun _ z => z)) (fun x ρ2 k cls dd H2 M2 q2 r2 => k cls dd H2 M2 (q.trans q2 fun _ z => z).weak r2) h⟩
  cases tf with
  | true =>
    refine hf _ _ _ _ _ (fun b ρ1 h H1 M1 q => ?_) (fun _ _ h => h) h
    cases b with
    | true => exact go true ρ1 H1 M1 q h
    | false => exact h H1 M1 q.left
  | false =>
    refine hf _ _ _ _ _ (fun b ρ1 h H1 M1 q => ?_) (fun _ _ h => h) h
    cases b with
    | true => exact h H1 M1 q.left
    | false => exact go false ρ1 H1 M1 q h
theorem wj_and {rest : List Expr} {pos : Pos} (ha : TJ X c W p1 a f) (hb : WJ X c W p2 (.BoolOp .And (b :: rest) pos) g) : WJ X c W (p1 && p2) (.BoolOp .And (a :: b :: rest) pos) (andT f g) := by
  refine ⟨andT_mono ha.mono hb.mono, PW.imp (L2.pw_and ha.run hb.run) fun σ H Q h => ?_⟩
  exact seqT ha.mono hb.mono true σ H Q h
theorem wj_or {rest : List Expr} {pos : Pos} (ha : TJ X c W p1 a f) (hb : WJ X c W p2 (.BoolOp .Or (b :: rest) pos) g) : WJ X c W (p1 && p2) (.BoolOp .Or (a :: b :: rest) pos) (orT f g) := by
  refine ⟨orT_mono ha.mono hb.mono, PW.imp (L2.pw_or ha.run hb.run) fun σ H Q h => ?_⟩
  obtain ⟨ρ, M, T, s, k⟩ := seqT ha.mono hb.mono false σ H Q h
  refine ⟨ρ, M, T, s, ha.mono _ _ _ _ _ (fun b ρ1 k H1 M1 q => ?_) (fun _ _ h => h) k⟩
  have k := k H1 M1 q
  cases b with
  | true => exact k
  | false => exact k
theorem tj_not {pos : Pos} (h : TJ X c W p a f) : TJ X c W p (.UnaryOp .Not a pos) (notT f) := by
  refine ⟨fun ρ K K' E E' hk he q => h.mono _ _ _ _ _ (fun b ρ1 => hk _ _) he q, PT.imp (L2.pt_not h.run) fun σ H Q q => q⟩
end
/-! ### argument lists -/
inductive VRs (c : Fr) (M : Addr → Prop) (H : Hp) : List V → List EV → List Addr → Prop
  | nil : VRs c M H [] [] []
  | cons {v : V} {x : EV} {as : List Addr} {vs : List V} {xs : List EV} {bs : List Addr} : VR c M H v x as → VRs c M H vs xs bs → VRs c M H (v :: vs) (x :: xs) (bs ++ as)
abbrev AS := Rho → (List EV → Rho → Prop) → (Exc → Rho → Prop) → Prop
def MonoA (f : AS) : Prop := ∀ ρ K K' E E', (∀ x ρ', K x ρ' → K' x ρ') → (∀ x ρ', E x ρ' → E' x ρ') → f ρ K E → f ρ K' E'
def rdA (c : Fr) (W : WX) (p : Bool) (f : AS) : TA := fun σ H Q => ∃ ρ M T, SR c M T σ H ρ ∧
  f ρ (fun xs ρ' => ∀ vs H' M' as, Post c p σ M T H M' (as ++ T) H' ρ' → VRs c M' H' vs xs as → Q vs H')
    (fun x ρ' => ∀ cls dd H' M', Post c false σ M T H M' T H' ρ' → XRep c M' H' cls dd x → W cls dd σ H')
structure AJ (X : Cx) (c : Fr) (W : WX) (p : Bool) (es : List Expr) (f : AS) : Prop where
  mono : MonoA f
  run : PA X es (rdA c W p f)
theorem PA.imp {X : Cx} {es : List Expr} {t t' : TA} (h : PA X es t) (i : ∀ σ H Q, t' σ H Q → t σ H Q) : PA X es t' := ⟨fun pos pins s σ H Q I q => h.run pos pins s σ H Q I (i σ H Q q)⟩
def nilA : AS := fun ρ K _ => K [] ρ
def consA (p2 : Bool) (f : ES) (g : AS) : AS := fun ρ K E => f ρ (fun x ρ1 => g ρ1 (fun xs ρ2 => okB p2 x ∧ K (x :: xs) ρ2) E) E
section
variable {X : Cx} {c : Fr} {W : WX} {p p1 p2 : Bool} {e : Expr} {es : List Expr} {f : ES} {g : AS}
theorem aj_nil : AJ X c W true [] nilA := ⟨fun ρ K K' E E' hk _ h => hk _ _ h, PA.imp L2.pa_nil fun σ H Q ⟨ρ, M, T, s, h⟩ => h [] H M [] (Post.same s) .nil⟩
theorem aj_cons (he : EJ X c W p1 e f) (hr : AJ X c W p2 es g) (hs : starEach (e :: es) X.env = (false, eval e X.env) :: starEach es X.env := by rfl) : AJ X c W (p1 && p2) (e :: es) (consA p2 f g) := by
  refine ⟨fun ρ K K' E E' hk hx h => he.mono _ _ _ _ _ (fun x ρ1 h => hr.mono _ _ _ _ _ (fun xs ρ2 h => ⟨h.1, hk _ _ h.2⟩) hx h) hx h, PA.imp (L2.pa_cons he.run hr.run hs) ?_⟩
  rintro σ H Q ⟨ρ, M, T, s, h⟩
  refine ⟨ρ, M, T, s, he.mono _ _ _ _ _ (fun x ρ1 h v H1 M1 as1 q1 r1 => ?_) (fun _ _ h => h) h⟩
  have ht : ∀ x ∈ T, x ∈ as1 ++ T := fun x hx => List.mem_append_right _ hx
  have k1 : ∀ xs ρ2, (okB p2 x ∧ ∀ vs H' M' as, Post c (p1 && p2) σ M T H M' (as ++ T) H' ρ2 → VRs c M' H' vs (x :: xs) as → Q vs H') →
      ∀ us H2 M2 as2, Post c p2 σ M1 (as1 ++ T) H1 M2 (as2 ++ (as1 ++ T)) H2 ρ2 → VRs c M2 H2 us xs as2 → Q (v :: us) H2 := fun xs ρ2 k us H2 M2 as2 q2 r2 => by
    refine k.2 _ H2 M2 (as2 ++ as1) ?_ (.cons (r1.next q1.sr q2 (fun a ha => List.mem_append_left _ ha) k.1) r2)
    rw [List.append_assoc]
    exact q1.trans q2 ht
  exact ⟨ρ1, M1, as1 ++ T, q1.sr, hr.mono _ _ _ _ _ k1 (fun x ρ2 h cls dd H2 M2 q2 r2 => h cls dd H2 M2 (q1.trans q2 ht).weak.drop r2) h⟩
end
/-! ### tuples, lists -/
/-- shared, each of them -/
def allV : List EV → Option (List D)
  | [] => some []
  | .v d :: xs => (allV xs).map (d :: ·)
  | .b _ :: _ => none
  | .m _ :: _ => none
  | .p _ :: _ => none
/-- owned, each of them -/
def allM : List EV → Option (List Sl)
  | [] => some []
  | .v d :: xs => (allM xs).map (.v d :: ·)
  | .m s :: xs => (allM xs).map (s :: ·)
  | .b _ :: _ => none
  | .p _ :: _ => none
theorem VRs.allV {c : Fr} {M : Addr → Prop} {H : Hp} : ∀ {vs : List V} {xs : List EV} {as : List Addr} {ds : List D}, VRs c M H vs xs as → allV xs = some ds → Reps c.g c.Z M H vs ds ∧ as = []
  | _, _, _, _, .nil, e => by rw [VS.allV] at e; cases e; exact ⟨.nil, rfl⟩
  | _, .v d :: xs, _, _, .cons r rs, e => by
    rw [VS.allV] at e
    cases q : VS.allV xs with
    | none => rw [q] at e; cases e
    | some ds =>
      rw [q] at e; cases e
      obtain ⟨h1, h2⟩ := rs.allV q
      cases r with
      | v r => exact ⟨.cons r h1, by rw [h2]; rfl⟩
  | _, .b _ :: _, _, _, _, e => by simp [VS.allV] at e
  | _, .m _ :: _, _, _, _, e => by simp [VS.allV] at e
  | _, .p _ :: _, _, _, _, e => by simp [VS.allV] at e
theorem RepOs.perm {g : Ge} {Z M : Addr → Prop} {H : Hp} {vs : List V} {ss : List Sl} {as : List Addr} (r : RepOs g Z M H vs ss as) : RepOs g Z M H vs ss as := r
theorem VRs.allM {c : Fr} {M : Addr → Prop} {H : Hp} : ∀ {vs : List V} {xs : List EV} {as : List Addr} {ss : List Sl}, VRs c M H vs xs as → allM xs = some ss → ∃ bs, RepOs c.g c.Z M H vs ss bs ∧ (∀ a, a ∈ bs ↔ a ∈ as) ∧ (as.Nodup → bs.Nodup)
  | _, _, _, _, .nil, e => by rw [VS.allM] at e; cases e; exact ⟨[], .nil, fun _ => Iff.rfl, fun h => h⟩
  | _, .v d :: xs, _, _, .cons (as := as) (bs := bs) r rs, e => by
    rw [VS.allM] at e
    cases q : VS.allM xs with
    | none => rw [q] at e; cases e
    | some ss =>
      rw [q] at e; cases e
      obtain ⟨cs, h1, h2, h3⟩ := rs.allM q
      cases r with
      | v r => exact ⟨[] ++ cs, .cons (.v r) h1, fun a => by simpa using h2 a, fun h => by simpa using h3 (by simpa using h)⟩
  | _, .m s :: xs, _, _, .cons (as := as) (bs := bs) r rs, e => by
    rw [VS.allM] at e
    cases q : VS.allM xs with
    | none => rw [q] at e; cases e
    | some ss =>
      rw [q] at e; cases e
      obtain ⟨cs, h1, h2, h3⟩ := rs.allM q
      cases r with
      | m r =>
        refine ⟨as ++ cs, .cons r h1, fun a => ?_, fun h => ?_⟩
        · rw [List.mem_append, List.mem_append, h2 a]; exact Or.comm
        · obtain ⟨n1, n2, n3⟩ := List.nodup_append.mp h
          exact List.nodup_append.mpr ⟨n2, h3 n1, fun a ha b hb e => n3 b ((h2 b).mp hb) a ha e.symm⟩
  | _, .b _ :: _, _, _, _, e => by simp [VS.allM] at e
  | _, .p _ :: _, _, _, _, e => by simp [VS.allM] at e
theorem VRs.length {c : Fr} {M : Addr → Prop} {H : Hp} : ∀ {vs : List V} {xs : List EV} {as : List Addr}, VRs c M H vs xs as → vs.length = xs.length
  | _, _, _, .nil => rfl
  | _, _, _, .cons _ rs => by rw [List.length_cons, List.length_cons, rs.length]
/-- a tuple: shared where all its parts are -/
def tupE (g : AS) : ES := fun ρ K E => g ρ (fun xs ρ' => xs.length ≤ 1000 ∧ match allV xs with
  | some ds => K (.v (.tup ds)) ρ'
  | none => (match allM xs with
    | some ss => K (.m (.t ss)) ρ'
    | none => False)) E
/-- a list: its items shared -/
def lstE (g : AS) : ES := fun ρ K E => g ρ (fun xs ρ' => xs.length ≤ 1000 ∧ match allV xs with
  | some ds => K (.m (.l ds)) ρ'
  | none => False) E
section
variable {X : Cx} {c : Fr} {W : WX} {p p1 p2 : Bool} {es : List Expr} {g : AS} {pos : Pos} {σ : L2.St} {M M' : Addr → Prop} {T T' as : List Addr} {H H' : Hp} {ρ' : Rho}
theorem le1000 {n : Nat} (h : n ≤ 1000) : n ≤ sizeLine := Nat.le_trans h (by decide)
/-- the same, its temporaries in another order -/
theorem Post.perm {bs : List Addr} (q : Post c p σ M T H M' (as ++ T) H' ρ') (h : ∀ a, a ∈ bs ↔ a ∈ as) (n : as.Nodup → bs.Nodup) : Post c p σ M T H M' (bs ++ T) H' ρ' := by
  obtain ⟨Ms, r, nd, al⟩ := q.sr.slots
  refine ⟨⟨⟨Ms, r, ?_, fun a ha => al a ?_⟩, q.sr.ty, q.sr.src, q.sr.keep, q.sr.pin, q.sr.ln⟩, q.keep, q.new, q.pu⟩
  · obtain ⟨n1, n2, n3⟩ := List.nodup_append.mp nd
    obtain ⟨m1, m2, m3⟩ := List.nodup_append.mp n2
    refine List.nodup_append.mpr ⟨n1, List.nodup_append.mpr ⟨n m1, m2, fun a ha b hb => m3 a ((h a).mp ha) b hb⟩, fun a ha b hb => n3 a ha b ?_⟩
    rcases List.mem_append.mp hb with hb | hb
    · exact List.mem_append_left _ ((h b).mp hb)
    · exact List.mem_append_right _ hb
  · rcases List.mem_append.mp ha with ha | ha
    · exact List.mem_append_left _ ha
    · rcases List.mem_append.mp ha with ha | ha
      · exact List.mem_append_right _ (List.mem_append_left _ ((h a).mp ha))
      · exact List.mem_append_right _ (List.mem_append_right _ ha)
theorem Post.nd (q : Post c p σ M T H M' (as ++ T) H' ρ') : as.Nodup := by
  obtain ⟨Ms, r, nd, al⟩ := q.sr.slots
  exact (List.nodup_append.mp (List.nodup_append.mp nd).2.1).1
/-- a new list or instance that is owned from here on by a value on its way -/
theorem Post.own {a : Addr} {o : HO} (q : Post c p σ M T H M' T' H' ρ') (hn : H' a = none) (hy : Typed (upd H' a o) a) : Post c p σ M T H (fun b => M' b ∨ b = a) (a :: T') (upd H' a o) ρ' := by
  have x : Ext H' (upd H' a o) := Ext.new hn
  have q' := q.ext x
  obtain ⟨Ms, r, nd, al⟩ := q'.sr.slots
  have hm : ¬ M' a := fun z => (q.sr.ty a z).ne hn
  have hH0 : a ∈ c.io ∨ c.H0 a = none := by
    by_cases z : a ∈ c.io
    · exact .inl z
    · refine .inr ?_
      cases e : c.H0 a with
      | none => rfl
      | some u => rw [q.sr.keep a u e z] at hn; cases hn
  obtain ⟨Ms0, r0, nd0, al0⟩ := q.sr.slots
  have mv : Moved (fun _ => False) M' (fun b => M' b ∨ b = a) H' (upd H' a o) := ⟨fun b u e _ => x b u e, fun _ h => h.elim, fun _ h => h.elim, fun b h => h.imp id fun z => by rw [z]; exact hn⟩
  refine ⟨⟨⟨Ms0, r0.moved mv (fun _ _ z => z), ?_, fun b hb => ?_⟩, fun b hb => ?_, fun b hb => ?_, q'.sr.keep, q'.sr.pin, q'.sr.ln⟩, q'.keep, fun b hb => ?_, q'.pu⟩
  · obtain ⟨n1, n2, n3⟩ := List.nodup_append.mp nd0
    refine List.nodup_append.mpr ⟨n1, List.nodup_cons.mpr ⟨fun z => hm (al0 a (List.mem_append_right _ z)), n2⟩, fun b hb d hd e => ?_⟩
    rcases List.mem_cons.mp hd with z | z
    · exact hm (z ▸ e ▸ al0 b (List.mem_append_left _ hb))
    · exact n3 b hb d z e
  · rcases List.mem_append.mp hb with z | z
    · exact .inl (al0 b (List.mem_append_left _ z))
    · rcases List.mem_cons.mp z with z | z
      · exact .inr z
      · exact .inl (al0 b (List.mem_append_right _ z))
  · rcases hb with z | z
    · exact q'.sr.ty b z
    · rw [z]; exact hy
  · rcases hb with z | z
    · exact q.sr.src b z
    · rw [z]; exact hH0
  · rcases hb with z | z
    · exact q.new b z
    · rw [z]
      by_cases hma : M a
      · exact .inl hma
      · refine .inr ?_
        cases e : H a with
        | none => rfl
        | some u => rw [q.keep a u e fun y => absurd y hma] at hn; cases hn
/-- what owns nothing and stood stands, whatever new is owned -/
theorem Post.own_mv {a : Addr} {o : HO} (hn : H' a = none) : Moved (fun _ => False) M' (fun b => M' b ∨ b = a) H' (upd H' a o) :=
  ⟨fun b u e _ => Ext.new hn b u e, fun _ h => h.elim, fun _ h => h.elim, fun b h => h.imp id fun z => by rw [z]; exact hn⟩
theorem ej_tup {x1} (h : AJ X c W p es g) (hK : X.K = c.g.K) : EJ X c W p (.Tuple es x1 pos) (tupE g) := by
  refine ⟨fun ρ K K' E E' hk he q => h.mono _ _ _ _ _ (fun xs ρ' k => ⟨k.1, ?_⟩) he q, PE.imp (L2.pe_tup h.run) ?_⟩
  · have k2 := k.2
    split at k2
    · exact hk _ _ k2
    · split at k2
      · exact hk _ _ k2
      · exact k2
  · rintro σ H Q ⟨ρ, M, T, s, k⟩
    refine ⟨ρ, M, T, s, h.mono _ _ _ _ _ (fun xs ρ' k vs H' M' as q r => ⟨by rw [r.length]; exact le1000 k.1, fun pa hp => ?_⟩) (fun _ _ h => h) k⟩
    have k2 := k.2
    have x : Ext H' (upd H' pa (.tup vs)) := Ext.new hp
    split at k2
    · rename_i ds e
      obtain ⟨r', ea⟩ := r.allV e
      subst ea
      exact k2 _ _ M' [] (q.ext x) (.v (.tup (.inl (.inl L2.upd_same)) (r'.ext x)))
    · split at k2
      · rename_i ss e
        obtain ⟨bs, r', hb, nb⟩ := r.allM e
        exact k2 _ _ M' bs ((q.perm hb nb).ext x) (.m (.t (.inl (.inl L2.upd_same)) (r'.ext x)))
      · exact k2.elim
theorem ej_lst (h : AJ X c W p es g) : EJ X c W p (.List es pos) (lstE g) := by
  refine ⟨fun ρ K K' E E' hk he q => h.mono _ _ _ _ _ (fun xs ρ' k => ⟨k.1, ?_⟩) he q, PE.imp (L2.pe_lst h.run) ?_⟩
  · have k2 := k.2
    split at k2
    · exact hk _ _ k2
    · exact k2
  · rintro σ H Q ⟨ρ, M, T, s, k⟩
    refine ⟨ρ, M, T, s, h.mono _ _ _ _ _ (fun xs ρ' k vs H' M' as q r => ⟨by rw [r.length]; exact le1000 k.1, fun pa hp => ?_⟩) (fun _ _ h => h) k⟩
    have k2 := k.2
    split at k2
    · rename_i ds e
      obtain ⟨r', ea⟩ := r.allV e
      subst ea
      exact k2 _ _ _ [pa] (q.own hp (.inl ⟨_, L2.upd_same⟩)) (.m (.l L2.upd_same (r'.moved (Post.own_mv hp))))
    · exact k2.elim
end
end VS
set_option Elab.async false
set_option linter.all false
set_option maxRecDepth 100000
set_option maxHeartbeats 4000000
/-! VS4: operators, comparisons, subscripts. Own work. -/
namespace VS
open PySem PySem.Spec PyProof.Rows
open L2 (V Hp HO upd SqL SqT Rd Cx TE TT TA TS VK XK WX PE PT PA PS PSs OpR RelV)
/-- a list, however it is held -/
def asL : EV → Option (List D)
  | .v (.lst _ ds) => some ds
  | .b ds => some ds
  | .m (.l ds) => some ds
  | _ => none
/-- a tuple of shared data -/
def asT : EV → Option (List D)
  | .v (.tup ds) => some ds
  | _ => none
section
variable {X : Cx} {c : Fr} {W : WX} {p p1 p2 : Bool} {M M' M2 : Addr → Prop} {T T' as as1 as2 : List Addr} {σ : L2.St} {H H' H2 : Hp} {ρ ρ' ρ2 : Rho}
theorem VR.list {v : V} {x : EV} {ds : List D} (r : VR c M H v x as) (e : asL x = some ds) : ∃ a vs, v = .ref a ∧ SqL c.g.K H a vs ∧ Reps c.g c.Z M H vs ds := by
  cases r with
  | v r =>
    cases r with
    | lst l r => cases e; exact ⟨_, _, rfl, l.sq, r⟩
    | _ => cases e
  | b l r => cases e; exact ⟨_, _, rfl, .inl (.inl l), r⟩
  | m r =>
    cases r with
    | l h r => cases e; exact ⟨_, _, rfl, .inl (.inl h), r⟩
    | _ => cases e
theorem VR.tuple {v : V} {x : EV} {ds : List D} (r : VR c M H v x as) (e : asT x = some ds) : ∃ a vs, v = .ref a ∧ SqT c.g.K H a vs ∧ Reps c.g c.Z M H vs ds := by
  cases r with
  | v r =>
    cases r with
    | tup l r => cases e; exact ⟨_, _, rfl, l, r⟩
    | _ => cases e
  | _ => cases e
theorem VR.int {v : V} {i : Int} (r : VR c M H v (.v (.int i)) as) : v = .int i := by
  cases r with
  | v r => cases r; rfl
theorem VR.str {v : V} {i : Str} (r : VR c M H v (.v (.str i)) as) : v = .str i := by
  cases r with
  | v r => cases r; rfl
theorem VR.bl {v : V} {i : Bool} (r : VR c M H v (.v (.bl i)) as) : v = .bl i := by
  cases r with
  | v r => cases r; rfl
abbrev BR := EV → EV → (EV → Rho → Prop) → (Exc → Rho → Prop) → Rho → Prop
def MonoR (R : BR) : Prop := ∀ x y ρ K K' E E', (∀ x ρ', K x ρ' → K' x ρ') → (∀ x ρ', E x ρ' → E' x ρ') → R x y K E ρ → R x y K' E' ρ
/-- the reading r does what R says -/
def Says (c : Fr) (r : L2.R2) (R : BR) : Prop := ∀ (p : Bool) σ M T H M2 H2 ρ2 as1 as2 v u x y Q E, Post c p σ M T H M2 (as2 ++ (as1 ++ T)) H2 ρ2 → VR c M2 H2 v x as1 → VR c M2 H2 u y as2 →
      R x y (fun ev ρ' => ∀ v H' M' as, Post c p σ M T H M' (as ++ T) H' ρ' → VR c M' H' v ev as → Q v H') E ρ2 → r v u H2 Q
theorem ej_op {op : Operator} {a b : Expr} {f g : ES} {r : L2.R2} {R : BR} {pos : Pos} (ho : OpR X (binaryOp op) r) (hM : MonoR R) (hR : Says c r R) (ha : EJ X c W p1 a f) (hb : EJ X c W p2 b g) :
    EJ X c W (p1 && p2) (.BinOp a op b pos) (bin p2 f g R) :=
  ej_bin ha hb (fun h1 h2 => L2.pe_op ho h1 h2) hM fun σ M T H M2 H2 ρ2 as1 as2 v u x y Q E => hR (p1 && p2) σ M T H M2 H2 ρ2 as1 as2 v u x y Q E
theorem ej_cmp {op : CmpOp} {a b : Expr} {f g : ES} {r : L2.R2} {R : BR} {pos : Pos} (ho : OpR X (compareOp op) r) (hM : MonoR R) (hR : Says c r R) (hm : behindInMarks op b = false) (ha : EJ X c W p1 a f) (hb : EJ X c W p2 b g) :
    EJ X c W (p1 && p2) (.Compare a [op] [b] pos) (bin p2 f g R) :=
  ej_bin ha hb (fun h1 h2 => L2.pe_cmpR ho h1 h2 hm) hM fun σ M T H M2 H2 ρ2 as1 as2 v u x y Q E => hR (p1 && p2) σ M T H M2 H2 ρ2 as1 as2 v u x y Q E
theorem tj_cmp {op : CmpOp} {a b : Expr} {f g : ES} {r : L2.R2} {R : BR} {pos : Pos} (ho : OpR X (compareOp op) r) (hM : MonoR R) (hR : Says c r R) (hm : behindInMarks op b = false) (ha : EJ X c W p1 a f) (hb : EJ X c W p2 b g) :
    TJ X c W (p1 && p2) (.Compare a [op] [b] pos) (bT (bin p2 f g R)) := by
  have h := ej_cmp (W := W) (pos := pos) ho hM hR hm ha hb
  refine ⟨MonoB.bT h.mono, PT.imp (L2.pt_cmpR ho ha.run hb.run hm) fun σ H Q q => ?_⟩
  exact seq2 ha.mono hb.mono (fun σ M T H M2 H2 ρ2 as1 as2 v u x y Q E => hR (p1 && p2) σ M T H M2 H2 ρ2 as1 as2 v u x y Q E) σ H _ (bT_run h.mono σ H Q q)
/-! ints -/
def intR (C : Int → Int → Prop) (d : Int → Int → D) : BR := fun x y K _ ρ => match x, y with
  | .v (.int i), .v (.int j) => C i j ∧ K (.v (d i j)) ρ
  | _, _ => False
theorem intR_mono {C : Int → Int → Prop} {d : Int → Int → D} : MonoR (intR C d) := fun x y ρ K K' E E' hk _ h => by
  unfold intR at h ⊢
  split at h
  · exact ⟨h.1, hk _ _ h.2⟩
  · exact h
theorem intR_says {C C' : Int → Int → Prop} {d : Int → Int → D} {g : Int → Int → V} (hC : ∀ i j, C i j → C' i j) (hd : ∀ (M : Addr → Prop) (H : Hp) i j, Rep c.g c.Z M H (g i j) (d i j)) : Says c (L2.rI C' g) (intR C d) := by
  intro p σ M T H M2 H2 ρ2 as1 as2 v u x y Q E q r1 r2 h
  unfold intR at h
  split at h
  · exact ⟨_, _, r1.int, r2.int, hC _ _ h.1, h.2 _ H2 M2 [] q.drop.drop (.v (hd _ _ _ _))⟩
  · exact h.elim
theorem intR_says0 {d : Int → Int → D} {g : Int → Int → V} (hd : ∀ (M : Addr → Prop) (H : Hp) i j, Rep c.g c.Z M H (g i j) (d i j)) : Says c (L2.rI0 g) (intR (fun _ _ => True) d) := by
  intro p σ M T H M2 H2 ρ2 as1 as2 v u x y Q E q r1 r2 h
  unfold intR at h
  split at h
  · exact ⟨_, _, r1.int, r2.int, h.2 _ H2 M2 [] q.drop.drop (.v (hd _ _ _ _))⟩
  · exact h.elim
/-- a product whose size is in bounds -/
def MulOk (i j : Int) : Prop := i.natAbs.log2 + j.natAbs.log2 < 130000000
theorem MulOk.ok {i j : Int} (h : MulOk i j) : IntMulOk i j := by
  have b : ∀ x : Int, Builtin.Int.intBits x ≤ x.natAbs.log2 + 1 := fun x => by
    unfold Builtin.Int.intBits
    split <;> omega
  have h1 := b i
  have h2 := b j
  have h3 : i.natAbs.log2 + j.natAbs.log2 < 130000000 := h
  have e : bitsLine = 134217728 := by decide
  unfold IntMulOk
  intro z
  rw [Bool.and_eq_true] at z
  have z2 := z.2
  unfold Builtin.Int.intTooBig at z2
  have z3 := of_decide_eq_true z2
  rw [e] at z3
  omega
theorem op_mulV : OpR X (binaryOp .Mult) (L2.rI MulOk fun i j => .int (i * j)) := L2.opI fun _ _ _ _ _ _ _ hc q => mul_int q hc.ok
/-- a divisor in bounds -/
def DivOk (_ j : Int) : Prop := j ≠ 0 ∧ j.natAbs.log2 < 9000
theorem op_fdivV : OpR X (binaryOp .FloorDiv) (L2.rI DivOk fun i j => .int (i.fdiv j)) := L2.opI fun i j _ _ _ _ _ hc q => floordiv_int hc.1 q (.inl (PyProof.noPylong_of_log2 hc.2))
/-! + of ints, texts, tuples, lists -/
theorem op_catL : OpR X (binaryOp .Add) (fun x y H Q => ∃ l b xs zs, x = .ref l ∧ y = .ref b ∧ SqL X.K H l xs ∧ SqL X.K H b zs ∧ xs.length + zs.length ≤ sizeLine ∧ ∀ p, H p = none → Q (.ref p) (upd H p (.lst (xs ++ zs)))) := by
  intro pins s σ H x y v u Q I rx ry h
  obtain ⟨l, b, xs, zs, rfl, rfl, hH, hB, hz, q⟩ := h
  cases rx
  cases ry
  obtain ⟨its, r, pl, _⟩ := I.list hH
  obtain ⟨its2, r2, pl2, _⟩ := I.list hB
  have hsz : its.toArray.size + its2.toArray.size ≤ sizeLine := by rw [List.size_toArray, List.size_toArray, ← r.length, ← r2.length]; exact hz
  obtain ⟨⟨cls, dd, data, sl⟩, ho, hc, n, hd⟩ := pl.isList
  obtain ⟨⟨cls2, dd2, data2, sl2⟩, ho2, hc2, n2, hd2⟩ := pl2.isList
  simp only at hc hd hc2 hd2
  subst hc hd hc2 hd2
  have e : its.toArray ++ its2.toArray = (its ++ its2).toArray := by simp
  refine concat_meets ⟨_, ho, rfl⟩ ⟨_, ho2, rfl⟩ noFill_list_add seq_list_add PySem.F.slot_list_add PySem.F.entry_list_add (PySem.F.args_list_add_2 _ _) (list_addW l b its.toArray its2.toArray n n2 dd dd2 sl sl2 hsz) ⟨ho, ho2, ?_⟩
  rw [e]
  exact ⟨.ref _, _, I.lnew (t' := s.toks) (r.append r2) (by rw [List.length_append]; exact hz), rfl, q _ I.fresh⟩
def addR : BR := fun x y K _ ρ => match x, y with
  | .v (.int i), .v (.int j) => K (.v (.int (i + j))) ρ
  | .v (.str a), .v (.str b) => a.length + b.length ≤ sizeLine ∧ K (.v (.str (a ++ b))) ρ
  | .v (.tup a), .v (.tup b) => (a ≠ [] ∧ b ≠ [] ∧ a.length + b.length ≤ 100000) ∧ K (.v (.tup (a ++ b))) ρ
  | x, y => match asL x, asL y with
    | some a, some b => a.length + b.length ≤ 1000000 ∧ K (.m (.l (a ++ b))) ρ
    | _, _ => False
theorem addR_mono : MonoR addR := fun x y ρ K K' E E' hk _ h => by
  unfold addR at h ⊢
  split at h
  · exact hk _ _ h
  · exact ⟨h.1, hk _ _ h.2⟩
  · exact ⟨h.1, hk _ _ h.2⟩
  · split at h
    · exact ⟨h.1, hk _ _ h.2⟩
    · exact h
abbrev rAdd : L2.R2 := fun x y H Q => L2.rI0 (fun i j => .int (i + j)) x y H Q ∨ (∃ i j, x = .str i ∧ y = .str j ∧ i.length + j.length ≤ sizeLine ∧ Q (.str (i ++ j)) H) ∨ L2.rCatT X.K x y H Q ∨
  ∃ l b xs zs, x = .ref l ∧ y = .ref b ∧ SqL X.K H l xs ∧ SqL X.K H b zs ∧ xs.length + zs.length ≤ sizeLine ∧ ∀ p, H p = none → Q (.ref p) (upd H p (.lst (xs ++ zs)))
theorem op_addV : OpR X (binaryOp .Add) (rAdd (X := X)) := L2.op_add.or (L2.op_add_str.or (L2.op_catT.or op_catL))
theorem le_line {n k : Nat} (h : n ≤ k) (hk : k ≤ 1000000) : n ≤ sizeLine := Nat.le_trans h (Nat.le_trans hk (by decide))
theorem addR_says (hK : X.K = c.g.K) : Says c (rAdd (X := X)) addR := by
  intro p σ M T H M2 H2 ρ2 as1 as2 v u x y Q E q r1 r2 h
  unfold addR at h
  split at h
  · exact .inl ⟨_, _, r1.int, r2.int, h _ H2 M2 [] q.drop.drop (.v (.int _))⟩
  · exact .inr (.inl ⟨_, _, r1.str, r2.str, h.1, h.2 _ H2 M2 [] q.drop.drop (.v (.str _))⟩)
  · rename_i a b
    obtain ⟨l1, vs1, e1, t1, q1⟩ := r1.tuple rfl
    obtain ⟨l2, vs2, e2, t2, q2⟩ := r2.tuple rfl
    obtain ⟨⟨n1, n2, n3⟩, k⟩ := h
    have z1 : vs1 ≠ [] := fun z => n1 (by have := q1.length; rw [z] at this; exact List.length_eq_zero_iff.mp this.symm)
    have z2 : vs2 ≠ [] := fun z => n2 (by have := q2.length; rw [z] at this; exact List.length_eq_zero_iff.mp this.symm)
    refine .inr (.inr (.inl ⟨l1, l2, vs1, vs2, e1, e2, hK ▸ t1, hK ▸ t2, z1, by rw [q1.length, q2.length]; exact le_line n3 (by decide), fun z => absurd z z2, fun _ pa hp => ?_⟩))
    exact k _ _ M2 [] (q.drop.drop.ext (Ext.new hp)) (.v (.tup (.inl (.inl L2.upd_same)) ((q1.append q2).ext (Ext.new hp))))
  · split at h
    · rename_i a b ea eb
      obtain ⟨l1, vs1, e1, t1, q1⟩ := r1.list ea
      obtain ⟨l2, vs2, e2, t2, q2⟩ := r2.list eb
      refine .inr (.inr (.inr ⟨l1, l2, vs1, vs2, e1, e2, hK ▸ t1, hK ▸ t2, by rw [q1.length, q2.length]; exact le_line h.1 (by decide), fun pa hp => ?_⟩))
      exact h.2 _ _ _ [pa] (q.drop.drop.own hp (.inl ⟨_, L2.upd_same⟩)) (.m (.l L2.upd_same ((q1.append q2).moved (Post.own_mv hp))))
    · exact h.elim
theorem ej_add {a b : Expr} {f g : ES} {pos : Pos} (hK : X.K = c.g.K) (ha : EJ X c W p1 a f) (hb : EJ X c W p2 b g) : EJ X c W (p1 && p2) (.BinOp a .Add b pos) (bin p2 f g addR) := ej_op op_addV addR_mono (addR_says hK) ha hb
theorem ej_sub {a b : Expr} {f g : ES} {pos : Pos} (ha : EJ X c W p1 a f) (hb : EJ X c W p2 b g) : EJ X c W (p1 && p2) (.BinOp a .Sub b pos) (bin p2 f g (intR (fun _ _ => True) fun i j => .int (i - j))) :=
  ej_op L2.op_sub intR_mono (intR_says0 fun _ _ _ _ => .int _) ha hb
theorem ej_mul {a b : Expr} {f g : ES} {pos : Pos} (ha : EJ X c W p1 a f) (hb : EJ X c W p2 b g) : EJ X c W (p1 && p2) (.BinOp a .Mult b pos) (bin p2 f g (intR MulOk fun i j => .int (i * j))) :=
  ej_op op_mulV intR_mono (intR_says (fun _ _ h => h) fun _ _ _ _ => .int _) ha hb
theorem ej_fdiv {a b : Expr} {f g : ES} {pos : Pos} (ha : EJ X c W p1 a f) (hb : EJ X c W p2 b g) : EJ X c W (p1 && p2) (.BinOp a .FloorDiv b pos) (bin p2 f g (intR DivOk fun i j => .int (i.fdiv j))) :=
  ej_op op_fdivV intR_mono (intR_says (fun _ _ h => h) fun _ _ _ _ => .int _) ha hb
theorem ej_mod {a b : Expr} {f g : ES} {pos : Pos} (ha : EJ X c W p1 a f) (hb : EJ X c W p2 b g) : EJ X c W (p1 && p2) (.BinOp a .Mod b pos) (bin p2 f g (intR (fun _ j => j ≠ 0) fun i j => .int (i.fmod j))) :=
  ej_op L2.op_modN intR_mono (intR_says (fun _ _ h => h) fun _ _ _ _ => .int _) ha hb
/-! order of ints -/
abbrev ltR : BR := intR (fun _ _ => True) fun i j => .bl (decide (i < j))
abbrev gtR : BR := intR (fun _ _ => True) fun i j => .bl (decide (j < i))
theorem ltR_says : Says c (L2.rI0 fun i j => .bl (decide (i < j))) ltR := intR_says0 fun _ _ _ _ => .bl _
theorem gtR_says : Says c (L2.rI0 fun i j => .bl (decide (j < i))) gtR := intR_says0 fun _ _ _ _ => .bl _
section
variable {a b : Expr} {f g : ES} {pos : Pos}
theorem ej_lt (ha : EJ X c W p1 a f) (hb : EJ X c W p2 b g) : EJ X c W (p1 && p2) (.Compare a [.Lt] [b] pos) (bin p2 f g ltR) := ej_cmp L2.op_lt intR_mono ltR_says (L2.nomark _) ha hb
theorem ej_gt (ha : EJ X c W p1 a f) (hb : EJ X c W p2 b g) : EJ X c W (p1 && p2) (.Compare a [.Gt] [b] pos) (bin p2 f g gtR) := ej_cmp L2.op_gt intR_mono gtR_says (L2.nomark _) ha hb
theorem tj_lt (ha : EJ X c W p1 a f) (hb : EJ X c W p2 b g) : TJ X c W (p1 && p2) (.Compare a [.Lt] [b] pos) (bT (bin p2 f g ltR)) := tj_cmp L2.op_lt intR_mono ltR_says (L2.nomark _) ha hb
theorem tj_gt (ha : EJ X c W p1 a f) (hb : EJ X c W p2 b g) : TJ X c W (p1 && p2) (.Compare a [.Gt] [b] pos) (bT (bin p2 f g gtR)) := tj_cmp L2.op_gt intR_mono gtR_says (L2.nomark _) ha hb
end
end
/-! equality of data -/
mutual
def py : D → PyData
  | .non => .none
  | .bl b => .bool b
  | .int i => .int i
  | .str s => .str s
  | .tup ds => .tuple (pys ds)
  | .lst _ ds => .list (pys ds)
  | .ty _ => .none
  | .fn _ => .none
  | .dct _ _ => .none
def pys : List D → List PyData
  | [] => []
  | d :: ds => py d :: pys ds
end
mutual
def eqD : D → D → Bool
  | .non, .non => true
  | .bl a, .bl b => a == b
  | .bl a, .int j => (if a then 1 else 0) == j
  | .int i, .bl b => i == (if b then 1 else 0)
  | .int i, .int j => i == j
  | .str x, .str y => x == y
  | .tup xs, .tup ys => eqDs xs ys
  | .lst _ xs, .lst _ ys => eqDs xs ys
  | _, _ => false
def eqDs : List D → List D → Bool
  | [], [] => true
  | x :: xs, y :: ys => eqD x y && eqDs xs ys
  | _, _ => false
end
mutual
def depD : D → Nat
  | .tup ds => depDs ds + 1
  | .lst _ ds => depDs ds + 1
  | _ => 0
def depDs : List D → Nat
  | [] => 0
  | d :: ds => max (depD d) (depDs ds)
end
mutual
def cmpD : D → Bool
  | .tup ds => cmpDs ds
  | .lst _ ds => cmpDs ds
  | .ty _ => false
  | .fn _ => false
  | .dct _ _ => false
  | _ => true
def cmpDs : List D → Bool
  | [] => true
  | d :: ds => cmpD d && cmpDs ds
end
mutual
theorem py_plain : ∀ d : D, (py d).plain = true
  | .non => rfl
  | .bl _ => rfl
  | .int _ => rfl
  | .str _ => rfl
  | .tup ds => by rw [py, PyData.plain]; exact pys_plain ds
  | .lst _ ds => by rw [py, PyData.plain]; exact pys_plain ds
  | .ty _ => rfl
  | .fn _ => rfl
  | .dct _ _ => rfl
theorem pys_plain : ∀ ds : List D, PyData.plainAll (pys ds) = true
  | [] => rfl
  | d :: ds => by rw [pys, PyData.plainAll, py_plain d, pys_plain ds]; rfl
end
mutual
theorem py_depth : ∀ d : D, (py d).depth = depD d
  | .non => rfl
  | .bl _ => rfl
  | .int _ => rfl
  | .str _ => rfl
  | .tup ds => by rw [py, PyData.depth, depD, pys_depth ds]
  | .lst _ ds => by rw [py, PyData.depth, depD, pys_depth ds]
  | .ty _ => rfl
  | .fn _ => rfl
  | .dct _ _ => rfl
theorem pys_depth : ∀ ds : List D, PyData.depthAll (pys ds) = depDs ds
  | [] => rfl
  | d :: ds => by rw [pys, PyData.depthAll, depDs, py_depth d, pys_depth ds]
end
mutual
theorem py_eqv : ∀ a b : D, cmpD a = true → cmpD b = true → PyData.eqv (py a) (py b) = eqD a b
  | .tup xs, .tup ys, ha, hb => by
    rw [cmpD] at ha hb
    rw [py, py, PyData.eqv, eqD]; exact pys_eqv xs ys ha hb
  | .lst _ xs, .lst _ ys, ha, hb => by
    rw [cmpD] at ha hb
    rw [py, py, PyData.eqv, eqD]; exact pys_eqv xs ys ha hb
  | .non, b, _, hb => by cases b <;> first | rfl | exact absurd hb (by simp [cmpD])
  | .bl _, b, _, hb => by cases b <;> first | rfl | exact absurd hb (by simp [cmpD])
  | .int _, b, _, hb => by cases b <;> first | rfl | exact absurd hb (by simp [cmpD])
  | .str _, b, _, hb => by cases b <;> first | rfl | exact absurd hb (by simp [cmpD])
  | .tup _, .non, _, _ => rfl
  | .tup _, .bl _, _, _ => rfl
  | .tup _, .int _, _, _ => rfl
  | .tup _, .str _, _, _ => rfl
  | .tup _, .lst _ _, _, _ => rfl
  | .lst _ _, .non, _, _ => rfl
  | .lst _ _, .bl _, _, _ => rfl
  | .lst _ _, .int _, _, _ => rfl
  | .lst _ _, .str _, _, _ => rfl
  | .lst _ _, .tup _, _, _ => rfl
  | .tup _, .ty _, _, hb => absurd hb (by simp [cmpD])
  | .tup _, .fn _, _, hb => absurd hb (by simp [cmpD])
  | .tup _, .dct _ _, _, hb => absurd hb (by simp [cmpD])
  | .lst _ _, .ty _, _, hb => absurd hb (by simp [cmpD])
  | .lst _ _, .fn _, _, hb => absurd hb (by simp [cmpD])
  | .lst _ _, .dct _ _, _, hb => absurd hb (by simp [cmpD])
  | .ty _, _, ha, _ => absurd ha (by simp [cmpD])
  | .fn _, _, ha, _ => absurd ha (by simp [cmpD])
  | .dct _ _, _, ha, _ => absurd ha (by simp [cmpD])
theorem pys_eqv : ∀ xs ys : List D, cmpDs xs = true → cmpDs ys = true → PyData.eqvAll (pys xs) (pys ys) = eqDs xs ys
  | [], [], _, _ => rfl
  | [], _ :: _, _, _ => rfl
  | _ :: _, [], _, _ => rfl
  | x :: xs, y :: ys, ha, hb => by
    rw [cmpDs, Bool.and_eq_true] at ha hb
    rw [pys, pys, PyData.eqvAll, eqDs, py_eqv x y ha.1 hb.1, pys_eqv xs ys ha.2 hb.2]
end
section
variable {g : Ge} {Z M : Addr → Prop} {H : Hp}
mutual
theorem Rep.dp : ∀ {v : V} {d : D}, Rep g Z M H v d → cmpD d = true → L2.Dp g.K H v (py d)
  | _, _, .non, _ => .non
  | _, _, .bl b, _ => .bl b
  | _, _, .int i, _ => .int i
  | _, _, .str s, _ => .str s
  | _, _, .ty _, k => absurd k (by simp [cmpD])
  | _, _, .fn _, k => absurd k (by simp [cmpD])
  | _, _, .tup h r, k => .tup h (r.dp (by simpa [cmpD] using k))
  | _, _, .lst h r, k => .lst h.sq (r.dp (by simpa [cmpD] using k))
  | _, _, .dct _ _ _ _, k => absurd k (by simp [cmpD])
theorem Reps.dp : ∀ {vs : List V} {ds : List D}, Reps g Z M H vs ds → cmpDs ds = true → L2.DpAll g.K H vs (pys ds)
  | _, _, .nil, _ => .nil
  | _, d :: ds, .cons r rs, k => by
    have k' : cmpD d = true ∧ cmpDs ds = true := by simpa [cmpDs] using k
    exact .cons (r.dp k'.1) (rs.dp k'.2)
end
mutual
theorem RepO.dp : ∀ {v : V} {s : Sl} {as : List Addr} {d : D}, RepO g Z M H v s as → frSl s = some d → cmpD d = true → L2.Dp g.K H v (py d)
  | _, _, _, _, .v r, e, k => by
    rw [frSl] at e; cases e; exact r.dp k
  | _, _, _, _, .l h r, e, k => by
    rw [frSl] at e; cases e; exact .lst (.inl (.inl h)) (r.dp (by simpa [cmpD] using k))
  | _, .t ss, _, _, .t h r, e, k => by
    rw [frSl] at e
    cases q : frSls ss with
    | none => rw [q] at e; cases e
    | some ds => rw [q] at e; cases e; exact .tup h (r.dp q (by simpa [cmpD] using k))
  | _, _, _, _, .o _ _ _ _ _, e, _ => by rw [frSl] at e; cases e
  | _, .ll ss, _, _, .ll h r, e, k => by
    rw [frSl] at e
    cases q : frSls ss with
    | none => rw [q] at e; cases e
    | some ds => rw [q] at e; cases e; exact .lst (.inl (.inl h)) (r.dp q (by simpa [cmpD] using k))
theorem RepOs.dp : ∀ {vs : List V} {ss : List Sl} {as : List Addr} {ds : List D}, RepOs g Z M H vs ss as → frSls ss = some ds → cmpDs ds = true → L2.DpAll g.K H vs (pys ds)
  | _, _, _, _, .nil, e, _ => by rw [frSls] at e; cases e; exact .nil
  | _, s :: ss, _, _, .cons r rs, e, k => by
    rw [frSls] at e
    cases q : frSl s with
    | none => rw [q] at e; cases e
    | some d =>
      cases q2 : frSls ss with
      | none => rw [q, q2] at e; cases e
      | some ds =>
        rw [q, q2] at e; cases e
        have k' : cmpD d = true ∧ cmpDs ds = true := by simpa [cmpDs] using k
        exact .cons (r.dp q k'.1) (rs.dp q2 k'.2)
end
end
/-- as data, however it is held -/
def asD : EV → Option D
  | .v d => some d
  | .b ds => some (.lst false ds)
  | .m s => frSl s
  | .p _ => none
section
variable {X : Cx} {c : Fr} {W : WX} {p p1 p2 : Bool} {M M' M2 : Addr → Prop} {T T' as as1 as2 : List Addr} {σ : L2.St} {H H' H2 : Hp} {ρ ρ' ρ2 : Rho}
theorem VR.dp {v : V} {x : EV} {d : D} (r : VR c M H v x as) (e : asD x = some d) (k : cmpD d = true) : L2.Dp c.g.K H v (py d) := by
  cases r with
  | v r => cases e; exact r.dp k
  | b l r => cases e; exact .lst (.inl (.inl l)) (r.dp (by simpa [cmpD] using k))
  | m r => exact r.dp e k
def rEqP (K : PySem.W.Frag) (neg : Bool) : L2.R2 := fun x y H Q => ∃ d e, L2.Dp K H x d ∧ L2.Dp K H y e ∧ d.plain = true ∧ e.plain = true ∧ min d.depth e.depth ≤ 100 ∧ Q (.bl (if neg then !PyData.eqv d e else PyData.eqv d e)) H
theorem op_eqP (hu : X.A.units + 128 < cLine) : OpR X (compareOp .Eq) (rEqP X.K false) := by
  intro pins s σ H x y v u Q I rx ry h
  obtain ⟨d, e, hd, he, sd, se, hm, q⟩ := h
  obtain ⟨as, r1⟩ := L2.Dp.reads I d x v hd rx
  obtain ⟨bs, r2⟩ := L2.Dp.reads I e y u he ry
  exact SeqAt.eq_plain r1 r2 sd se (by omega) ⟨.bl _, H, I, rfl, q⟩
theorem op_neP (hu : X.A.units + 128 < cLine) : OpR X (compareOp .NotEq) (rEqP X.K true) := by
  intro pins s σ H x y v u Q I rx ry h
  obtain ⟨d, e, hd, he, sd, se, hm, q⟩ := h
  obtain ⟨as, r1⟩ := L2.Dp.reads I d x v hd rx
  obtain ⟨bs, r2⟩ := L2.Dp.reads I e y u he ry
  exact SeqAt.ne_plain r1 r2 sd se (by omega) ⟨.bl _, H, I, rfl, q⟩
def eqR (neg : Bool) : BR := fun x y K _ ρ => match asD x, asD y with
  | some a, some b => (cmpD a = true ∧ cmpD b = true ∧ min (depD a) (depD b) ≤ 100) ∧ K (.v (.bl (if neg then !eqD a b else eqD a b))) ρ
  | _, _ => False
theorem eqR_mono {neg : Bool} : MonoR (eqR neg) := fun x y ρ K K' E E' hk _ h => by
  unfold eqR at h ⊢
  split at h
  · exact ⟨h.1, hk _ _ h.2⟩
  · exact h
theorem eqR_says {neg : Bool} (hK : X.K = c.g.K) : Says c (rEqP X.K neg) (eqR neg) := by
  intro p σ M T H M2 H2 ρ2 as1 as2 v u x y Q E q r1 r2 h
  unfold eqR at h
  split at h
  · rename_i a b ea eb
    obtain ⟨⟨ca, cb, dp⟩, k⟩ := h
    refine ⟨py a, py b, hK ▸ r1.dp ea ca, hK ▸ r2.dp eb cb, py_plain a, py_plain b, by rw [py_depth, py_depth]; exact dp, ?_⟩
    rw [py_eqv a b ca cb]
    exact k _ H2 M2 [] q.drop.drop (.v (.bl _))
  · exact h.elim
section
variable {a b : Expr} {f g : ES} {pos : Pos}
theorem ej_eq (hK : X.K = c.g.K) (hu : X.A.units + 128 < cLine) (ha : EJ X c W p1 a f) (hb : EJ X c W p2 b g) : EJ X c W (p1 && p2) (.Compare a [.Eq] [b] pos) (bin p2 f g (eqR false)) := ej_cmp (op_eqP hu) eqR_mono (eqR_says hK) (L2.nomark _) ha hb
theorem tj_eq (hK : X.K = c.g.K) (hu : X.A.units + 128 < cLine) (ha : EJ X c W p1 a f) (hb : EJ X c W p2 b g) : TJ X c W (p1 && p2) (.Compare a [.Eq] [b] pos) (bT (bin p2 f g (eqR false))) := tj_cmp (op_eqP hu) eqR_mono (eqR_says hK) (L2.nomark _) ha hb
theorem tj_ne (hK : X.K = c.g.K) (hu : X.A.units + 128 < cLine) (ha : EJ X c W p1 a f) (hb : EJ X c W p2 b g) : TJ X c W (p1 && p2) (.Compare a [.NotEq] [b] pos) (bT (bin p2 f g (eqR true))) := tj_cmp (op_neP hu) eqR_mono (eqR_says hK) (L2.nomark _) ha hb
end
/-! is None -/
def isNon : EV → Bool
  | .v .non => true
  | .m (.v .non) => true
  | _ => false
theorem VR.isNon {v : V} {x : EV} (r : VR c M H v x as) : decide (v = .non) = VS.isNon x := by
  cases r with
  | v r => cases r <;> simp [VS.isNon]
  | b l r => simp [VS.isNon]
  | m r =>
    cases r with
    | v r => cases r <;> simp [VS.isNon]
    | _ => simp [VS.isNon]
end
end VS
set_option Elab.async false
set_option linter.all false
set_option maxRecDepth 100000
set_option maxHeartbeats 4000000
/-! VS5: subscripts, built-in calls, calls of defs. Own work. -/
namespace VS
open PySem PySem.Spec PyProof.Rows
open L2 (V Hp HO upd SqL SqT Rd Cx TE TT TA TS VK XK WX PE PT PA PS PSs OpR RelV CallR Sp FnOk atI)
section
variable {X : Cx} {c : Fr} {W : WX} {p p1 p2 : Bool} {M M' M2 : Addr → Prop} {T T' as as1 as2 : List Addr} {σ : L2.St} {H H' H2 : Hp} {ρ ρ' ρ2 : Rho}
/-! is None -/
def isNR (neg : Bool) : BR := fun x y K _ ρ => match y with
  | .v .non => K (.v (.bl (if neg then !isNon x else isNon x))) ρ
  | _ => False
theorem isNR_mono {neg : Bool} : MonoR (isNR neg) := fun x y ρ K K' E E' hk _ h => by
  unfold isNR at h ⊢
  split at h
  · exact hk _ _ h
  · exact h
theorem VR.nn {v : V} (r : VR c M H v (.v .non) as) : v = .non := by
  cases r with
  | v r => cases r; rfl
theorem isN_says : Says c (fun x y H Q => y = .non ∧ Q (.bl (decide (x = .non))) H) (isNR false) := by
  intro p σ M T H M2 H2 ρ2 as1 as2 v u x y Q E q r1 r2 h
  unfold isNR at h
  split at h
  · refine ⟨r2.nn, ?_⟩
    rw [r1.isNon]
    exact h _ H2 M2 [] q.drop.drop (.v (.bl _))
  · exact h.elim
section
variable {a b : Expr} {f g : ES} {pos : Pos}
theorem tj_is (ha : EJ X c W p1 a f) (hb : EJ X c W p2 b g) : TJ X c W (p1 && p2) (.Compare a [.Is] [b] pos) (bT (bin p2 f g (isNR false))) := tj_cmp L2.op_isN isNR_mono isN_says (L2.nomark _) ha hb
end
/-! a op1 b op2 c of ints -/
def chainE (p2 p3 : Bool) (R R' : Int → Int → Bool) (f g h : ES) : ES := fun ρ K E => f ρ (fun x ρ1 => g ρ1 (fun y ρ2 => match x, y with
  | .v (.int i), .v (.int j) => if R i j = true then h ρ2 (fun z ρ3 => match z with
    | .v (.int k) => K (.v (.bl (R' j k))) ρ3
    | _ => False) E else K (.v (.bl false)) ρ2
  | _, _ => False) E) E
theorem ej_chain {op op' : CmpOp} {R R' : Int → Int → Bool} {a b d : Expr} {f g h : ES} {p3 : Bool} {pos : Pos} (ho : OpR X (compareOp op) (L2.rI0 fun i j => .bl (R i j))) (ho' : OpR X (compareOp op') (L2.rI0 fun i j => .bl (R' i j)))
    (ha : EJ X c W p1 a f) (hb : EJ X c W p2 b g) (hd : EJ X c W p3 d h) (hm : lastMarks [op, op'] [b, d] = false := by with_unfolding_all rfl) : EJ X c W (p1 && p2 && p3) (.Compare a [op, op'] [b, d] pos) (chainE p2 p3 R R' f g h) ∧
    PT X (.Compare a [op, op'] [b, d] pos) (L2.tTest (rdE c W (p1 && p2 && p3) (chainE p2 p3 R R' f g h))) := by
  have mono : Mono (chainE p2 p3 R R' f g h) := fun ρ K K' E E' hk he q => ha.mono _ _ _ _ _ (fun x ρ1 q => hb.mono _ _ _ _ _ (fun y ρ2 q => by
    split at q
    · split at q
      · rename_i hb; rw [if_pos hb]
        exact hd.mono _ _ _ _ _ (fun z ρ3 q => by
          split at q
          · exact hk _ _ q
          · exact q) he q
      · rename_i hb; rw [if_neg hb]; exact hk _ _ q
    · exact q) he q) he q
  have core : ∀ σ H Q, rdE c W (p1 && p2 && p3) (chainE p2 p3 R R' f g h) σ H Q → L2.tChain (L2.rI0 fun i j => .bl (R i j)) (L2.rI0 fun i j => .bl (R' i j)) (rdE c W p1 f) (rdE c W p2 g) (rdE c W p3 h) σ H Q := by
    rintro σ H Q ⟨ρ, M, T, s, q⟩
    refine ⟨ρ, M, T, s, ha.mono _ _ _ _ _ (fun x ρ1 q v H1 M1 as1 q1 r1 => ?_) (fun _ _ h => h) q⟩
    have ht : ∀ x ∈ T, x ∈ as1 ++ T := fun x hx => List.mem_append_right _ hx
    refine ⟨ρ1, M1, as1 ++ T, q1.sr, hb.mono _ _ _ _ _ (fun y ρ2 q u H2 M2 as2 q2 r2 => ?_) (fun x ρ2 h cls dd H2 M2 q2 r2 => h cls dd H2 M2 (q1.trans q2 ht).weak.drop r2) q⟩
    split at q
    · rename_i i j
      cases r1 with
      | v r1 =>
      cases r1
      cases r2 with
      | v r2 =>
      cases r2
      have q12 := q1.trans q2 (fun x hx => hx)
      refine ⟨_, _, rfl, rfl, _, rfl, ?_⟩
      split at q
      · rename_i hR
        rw [hR, if_pos rfl]
        refine ⟨ρ2, M2, T, q12.sr, hd.mono _ _ _ _ _ (fun z ρ3 q w H3 M3 as3 q3 r3 => ?_) (fun x ρ3 h cls dd H3 M3 q3 r3 => h cls dd H3 M3 (q12.trans q3 fun _ z => z).weak r3) q⟩
        split at q
        · rename_i k
          cases r3 with
          | v r3 =>
          cases r3
          exact ⟨_, _, rfl, rfl, q _ H3 M3 [] (q12.trans q3 fun _ z => z) (.v (.bl _))⟩
        · exact q.elim
      · rename_i hR
        have e := Bool.eq_false_iff.mpr hR
        rw [e, if_neg Bool.false_ne_true]
        exact q _ H2 M2 [] q12.left (.v (.bl _))
    · exact q.elim
  exact ⟨⟨mono, PE.imp (L2.pe_chain ho ho' ha.run hb.run hd.run hm) core⟩, PT.imp (L2.pt_chain ho ho' ha.run hb.run hd.run hm) fun σ H Q q => core σ H _ q⟩
theorem tj_chain {op op' : CmpOp} {R R' : Int → Int → Bool} {a b d : Expr} {f g h : ES} {p3 : Bool} {pos : Pos} (ho : OpR X (compareOp op) (L2.rI0 fun i j => .bl (R i j))) (ho' : OpR X (compareOp op') (L2.rI0 fun i j => .bl (R' i j)))
    (ha : EJ X c W p1 a f) (hb : EJ X c W p2 b g) (hd : EJ X c W p3 d h) (hm : lastMarks [op, op'] [b, d] = false := by with_unfolding_all rfl) : TJ X c W (p1 && p2 && p3) (.Compare a [op, op'] [b, d] pos) (bT (chainE p2 p3 R R' f g h)) :=
  tj_of (ej_chain ho ho' ha hb hd hm).1 fun _ => (ej_chain ho ho' ha hb hd hm).2
/-! and, or, not as values -/
def tvE (f : BS) : ES := fun ρ K E => f ρ (fun b ρ' => K (.v (.bl b)) ρ') E
def andV (f g : ES) : ES := fun ρ K E => f ρ (fun x ρ1 => match x with
  | .v (.bl b) => if b = true then g ρ1 K E else K (.v (.bl false)) ρ1
  | _ => False) E
def orV (f g : ES) : ES := fun ρ K E => f ρ (fun x ρ1 => match x with
  | .v (.bl b) => if b = true then K (.v (.bl true)) ρ1 else g ρ1 K E
  | _ => False) E
def notV (f : ES) : ES := fun ρ K E => f ρ (fun x ρ1 => match x with
  | .v (.bl b) => K (.v (.bl (!b))) ρ1
  | _ => False) E
section
variable {a b : Expr} {f g : ES} {pos : Pos}
theorem ej_one {op} (h : EJ X c W p a f) : EJ X c W p (.BoolOp op [a] pos) f := ⟨h.mono, L2.pe_one h.run⟩
theorem ej_not (h : EJ X c W p a f) : EJ X c W p (.UnaryOp .Not a pos) (notV f) := by
  refine ⟨fun ρ K K' E E' hk he q => h.mono _ _ _ _ _ (fun x ρ1 q => by
    split at q
    · exact hk _ _ q
    · exact q) he q, PE.imp (L2.pe_not h.run) ?_⟩
  rintro σ H Q ⟨ρ, M, T, s, q⟩
  refine ⟨ρ, M, T, s, h.mono _ _ _ _ _ (fun x ρ1 q v H1 M1 as1 q1 r1 => ?_) (fun _ _ h => h) q⟩
  split at q
  · exact ⟨_, r1.bl, q _ H1 M1 [] q1.drop (.v (.bl _))⟩
  · exact q.elim
theorem ej_and {rest : List Expr} (ha : EJ X c W p1 a f) (hb : EJ X c W p2 (.BoolOp .And (b :: rest) pos) g) : EJ X c W (p1 && p2) (.BoolOp .And (a :: b :: rest) pos) (andV f g) := by
  refine ⟨fun ρ K K' E E' hk he q => ha.mono _ _ _ _ _ (fun x ρ1 q => by
    split at q
    · split at q
      · rename_i hb'; rw [if_pos hb']; exact hb.mono _ _ _ _ _ hk he q
      · rename_i hb'; rw [if_neg hb']; exact hk _ _ q
    · exact q) he q, PE.imp (L2.pe_and ha.run hb.run) ?_⟩
  rintro σ H Q ⟨ρ, M, T, s, q⟩
  refine ⟨ρ, M, T, s, ha.mono _ _ _ _ _ (fun x ρ1 q v H1 M1 as1 q1 r1 => ?_) (fun _ _ h => h) q⟩
  split at q
  · rename_i b'
    refine ⟨b', r1.bl, ?_⟩
    cases b' with
    | true =>
      refine ⟨ρ1, M1, T, q1.drop.sr, hb.mono _ _ _ _ _ (fun y ρ2 q u H2 M2 as2 q2 r2 => q u H2 M2 as2 (q1.drop.trans q2 fun _ z => z) r2) (fun x ρ2 h cls dd H2 M2 q2 r2 => h cls dd H2 M2 (q1.drop.trans q2 fun _ z => z).weak r2) q⟩
    | false => exact q _ H1 M1 [] q1.drop.left (.v (.bl _))
  · exact q.elim
/-- a if t else b -/
def ifE (t : BS) (f g : ES) : ES := fun ρ K E => t ρ (fun b ρ1 => if b = true then f ρ1 K E else g ρ1 K E) E
end
/-! x[i] -/
theorem ixN_of {α : Type} {n : Nat} {xs : List α} {i : Int} {v : α} (h : atI xs i = some v) : ∃ j, L2.ixN xs.length i = some j ∧ xs[j]? = some v := by
  unfold L2.atI at h
  cases e : L2.ixN xs.length i with
  | none => rw [e] at h; cases h
  | some j => rw [e] at h; exact ⟨j, rfl, h⟩
theorem atI_reps {g : Ge} {Z : Addr → Prop} {vs : List V} {ds : List D} {i : Int} {d : D} (r : Reps g Z M H vs ds) (h : atI ds i = some d) : ∃ v, atI vs i = some v ∧ Rep g Z M H v d := by
  obtain ⟨j, h1, h2⟩ := ixN_of (n := 0) h
  obtain ⟨v, h3, h4⟩ := r.get h2
  refine ⟨v, ?_, h4⟩
  unfold L2.atI
  rw [r.length, h1]; exact h3
theorem RepOs.get' {g : Ge} {Z : Addr → Prop} : ∀ {vs : List V} {ss : List Sl} {as : List Addr} {j : Nat} {s : Sl}, RepOs g Z M H vs ss as → ss[j]? = some s → ∃ v bs, vs[j]? = some v ∧ RepO g Z M H v s bs ∧ bs.Sublist as
  | _, _, _, _, _, .nil, e => by simp at e
  | _, _, _, 0, _, .cons r _, e => by simp at e; subst e; exact ⟨_, _, rfl, r, List.sublist_append_left _ _⟩
  | _, _, _, j + 1, s, .cons _ rs, e => by
    obtain ⟨v, bs, h1, h2, h3⟩ := rs.get' (j := j) (s := s) (by simpa using e)
    exact ⟨v, bs, by simpa using h1, h2, h3.trans (List.sublist_append_right _ _)⟩
theorem RepOs.length {g : Ge} {Z : Addr → Prop} : ∀ {vs : List V} {ss : List Sl} {as : List Addr}, RepOs g Z M H vs ss as → vs.length = ss.length
  | _, _, _, .nil => rfl
  | _, _, _, .cons _ rs => by rw [List.length_cons, List.length_cons, rs.length]
/-- an owned thing yielded -/
def slEV : Sl → Option EV
  | .no => none
  | .v d => some (.v d)
  | s => some (.m s)
theorem RepO.ev {v : V} {s : Sl} {bs : List Addr} {x : EV} (r : RepO c.g c.Z M H v s bs) (e : slEV s = some x) : VR c M H v x bs := by
  cases r with
  | v r => cases e; exact .v r
  | l h r => cases e; exact .m (.l h r)
  | t h r => cases e; exact .m (.t h r)
  | o h n a b r => cases e; exact .m (.o h n a b r)
  | ll h r => cases e; exact .m (.ll h r)
theorem Post.sub {bs : List Addr} (q : Post c p σ M T H M' (as ++ T) H' ρ') (h : bs.Sublist as) : Post c p σ M T H M' (bs ++ T) H' ρ' := by
  obtain ⟨Ms, r, nd, al⟩ := q.sr.slots
  have hs : (Ms ++ (bs ++ T)).Sublist (Ms ++ (as ++ T)) := List.Sublist.append (List.Sublist.refl _) (List.Sublist.append h (List.Sublist.refl _))
  exact ⟨⟨⟨Ms, r, nd.sublist hs, fun a ha => al a (hs.subset ha)⟩, q.sr.ty, q.sr.src, q.sr.keep, q.sr.pin, q.sr.ln⟩, q.keep, q.new, q.pu⟩
def ixR : BR := fun x y K _ ρ => match y with
  | .v (.int i) => (match x with
    | .v (.str z) => z.length ≤ sizeLine ∧ (match atI z.cps.toList i with
      | some ch => K (.v (.str ⟨#[ch]⟩)) ρ
      | none => False)
    | .m (.t ss) => (match (atI ss i).bind slEV with
      | some ev => K ev ρ
      | none => False)
    | x => (match asT x with
      | some ds => (match atI ds i with
        | some d => K (.v d) ρ
        | none => False)
      | none => (match asL x with
        | some ds => (match atI ds i with
          | some d => K (.v d) ρ
          | none => False)
        | none => False)))
  | _ => False
theorem ixR_mono : MonoR ixR := fun x y ρ K K' E E' hk _ h => by
  unfold ixR at h ⊢
  split at h
  · split at h
    · refine ⟨h.1, ?_⟩
      have h2 := h.2
      split at h2
      · exact hk _ _ h2
      · exact h2
    · split at h
      · exact hk _ _ h
      · exact h
    · split at h
      · split at h
        · exact hk _ _ h
        · exact h
      · split at h
        · split at h
          · exact hk _ _ h
          · exact h
        · exact h
  · exact h
theorem ixR_says (hK : X.K = c.g.K) : Says c (L2.rIx X.K) ixR := by
  intro p σ M T H M2 H2 ρ2 as1 as2 v u x y Q E q r1 r2 h
  unfold ixR at h
  split at h
  · rename_i i
    have eu := r2.int
    split at h
    · rename_i z
      have h2 := h.2
      split at h2
      · rename_i ch e
        exact .inr (.inr ⟨z, i, ch, r1.str, eu, h.1, e, h2 _ H2 M2 [] q.drop.drop (.v (.str _))⟩)
      · exact h2.elim
    · rename_i ss
      split at h
      · rename_i ev e
        cases r1 with
        | m r1 =>
        cases r1 with
        | t ht r1 =>
        rename_i a vs
        cases e2 : atI ss i with
        | none => rw [e2] at e; cases e
        | some s =>
          rw [e2] at e
          obtain ⟨j, j1, j2⟩ := ixN_of (n := 0) e2
          obtain ⟨w, bs, w1, w2, w3⟩ := r1.get' j2
          have ew : atI vs i = some w := by unfold L2.atI; rw [r1.length, j1]; exact w1
          exact .inr (.inl ⟨a, vs, i, w, rfl, eu, hK ▸ ht, ew, h w H2 M2 bs (q.drop.sub w3) (w2.ev e)⟩)
      · exact h.elim
    · split at h
      · rename_i ds e
        obtain ⟨a, vs, ev, t, rs⟩ := r1.tuple e
        split at h
        · rename_i d ed
          obtain ⟨w, w1, w2⟩ := atI_reps rs ed
          exact .inr (.inl ⟨a, vs, i, w, ev, eu, hK ▸ t, w1, h w H2 M2 [] q.drop.drop (.v w2)⟩)
        · exact h.elim
      · split at h
        · rename_i ds e
          obtain ⟨a, vs, ev, t, rs⟩ := r1.list e
          split at h
          · rename_i d ed
            obtain ⟨w, w1, w2⟩ := atI_reps rs ed
            exact .inl ⟨a, vs, i, w, ev, eu, hK ▸ t, w1, h w H2 M2 [] q.drop.drop (.v w2)⟩
          · exact h.elim
        · exact h.elim
  · exact h.elim
theorem ej_ix {a b : Expr} {f g : ES} {pos : Pos} (hK : X.K = c.g.K) (hs : L2.PlainIx b) (ha : EJ X c W p1 a f) (hb : EJ X c W p2 b g) : EJ X c W (p1 && p2) (.Subscript a b pos) (bin p2 f g ixR) :=
  ej_bin ha hb (fun h1 h2 => L2.pe_ix L2.ix_seq h1 h2 hs) ixR_mono fun σ M T H M2 H2 ρ2 as1 as2 v u x y Q E => ixR_says hK (p1 && p2) σ M T H M2 H2 ρ2 as1 as2 v u x y Q E
end
/-! ### built-in calls by values -/
abbrev CR := List EV → (EV → Rho → Prop) → (Exc → Rho → Prop) → Rho → Prop
def MonoC (R : CR) : Prop := ∀ xs ρ K K' E E', (∀ x ρ', K x ρ' → K' x ρ') → (∀ x ρ', E x ρ' → E' x ρ') → R xs K E ρ → R xs K' E' ρ
def SaysC (c : Fr) (r : List V → Hp → VK → Prop) (R : CR) : Prop := ∀ (p : Bool) σ M T H M2 H2 ρ2 as vs xs Q E, Post c p σ M T H M2 (as ++ T) H2 ρ2 → VRs c M2 H2 vs xs as →
  R xs (fun ev ρ' => ∀ v H' M' as, Post c p σ M T H M' (as ++ T) H' ρ' → VR c M' H' v ev as → Q v H') E ρ2 → r vs H2 Q
def callV (R : CR) (g : AS) : ES := fun ρ K E => g ρ (fun xs ρ' => R xs K E ρ') E
section
variable {X : Cx} {c : Fr} {W : WX} {p p1 p2 : Bool} {e : Expr} {es : List Expr} {g : AS} {R : CR} {r : List V → Hp → VK → Prop} {x : Str} {ps pos : Pos}
theorem callV_run (ha : AJ X c W p (e :: es) g) (hR : SaysC c r R) : ∀ σ H Q, rdE c W p (callV R g) σ H Q → L2.tCB r (rdA c W p g) σ H Q := by
  rintro σ H Q ⟨ρ, M, T, s, h⟩
  exact ⟨ρ, M, T, s, ha.mono _ _ _ _ _ (fun xs ρ' k vs H' M' as q rs => hR p σ M T H M' H' ρ' as vs xs Q _ q rs k) (fun _ _ h => h) h⟩
theorem ej_callB {id : String} (hc : CallR X (.builtin id) r) (hM : MonoC R) (hR : SaysC c r R) (hg : L2.Gl X x) (hm : X.mg x = none) (hv : bootBuiltins x = some (.builtin id)) (ha : AJ X c W p (e :: es) g) (hn : x ≠ "__name__" := by decide) (hdb : (x == ("__debug__" : Str)) = false := by decide)
    (he : starEach (e :: es) X.env = (false, eval e X.env) :: starEach es X.env := by rfl) (hpl : (backTo pos (starEach es X.env)).any (·.1) = false := by rfl) : EJ X c W p (.Call (.Name x ps) (e :: es) [] pos) (callV R g) :=
  ⟨fun ρ K K' E E' hk hx q => ha.mono _ _ _ _ _ (fun xs ρ' q => hM _ _ _ _ _ _ hk hx q) hx q, PE.imp (L2.pe_callB hc hg hm hv ha.run hn hdb he hpl) (callV_run ha hR)⟩
theorem ej_callTy {n : String} (hc : CallR X (.type n) r) (hM : MonoC R) (hR : SaysC c r R) (hg : L2.Gl X x) (hm : X.mg x = none) (hv : bootBuiltins x = some (.type n)) (ha : AJ X c W p (e :: es) g) (hn : x ≠ "__name__" := by decide) (hdb : (x == ("__debug__" : Str)) = false := by decide)
    (he : starEach (e :: es) X.env = (false, eval e X.env) :: starEach es X.env := by rfl) (hpl : (backTo pos (starEach es X.env)).any (·.1) = false := by rfl) : EJ X c W p (.Call (.Name x ps) (e :: es) [] pos) (callV R g) :=
  ⟨fun ρ K K' E E' hk hx q => ha.mono _ _ _ _ _ (fun xs ρ' q => hM _ _ _ _ _ _ hk hx q) hx q, PE.imp (L2.pe_callTy hc hg hm hv ha.run hn hdb he hpl) (callV_run ha hR)⟩
end
section
variable {X : Cx} {c : Fr} {W : WX} {M : Addr → Prop} {H : Hp} {as : List Addr}
theorem VRs.one {vs : List V} {x : EV} (r : VRs c M H vs [x] as) : ∃ v, vs = [v] ∧ VR c M H v x as := by
  cases r with
  | cons r rs => cases rs; exact ⟨_, rfl, by simpa using r⟩
theorem VRs.two {vs : List V} {x y : EV} (r : VRs c M H vs [x, y] as) : ∃ v u as1 as2, vs = [v, u] ∧ VR c M H v x as1 ∧ VR c M H u y as2 ∧ as = as2 ++ as1 := by
  cases r with
  | cons r rs =>
    obtain ⟨u, rfl, r2⟩ := rs.one
    exact ⟨_, _, _, _, rfl, r, r2, rfl⟩
/-! len -/
def lenC : CR := fun xs K _ ρ => match xs with
  | [.v (.str z)] => z.length ≤ sizeLine ∧ K (.v (.int z.length)) ρ
  | [x] => (match asT x with
    | some ds => K (.v (.int ds.length)) ρ
    | none => (match asL x with
      | some ds => K (.v (.int ds.length)) ρ
      | none => (match x with
        | .m (.t ss) => K (.v (.int ss.length)) ρ
        | _ => False)))
  | _ => False
theorem lenC_mono : MonoC lenC := fun xs ρ K K' E E' hk _ h => by
  unfold lenC at h ⊢
  split at h
  · exact ⟨h.1, hk _ _ h.2⟩
  · split at h
    · exact hk _ _ h
    · split at h
      · exact hk _ _ h
      · split at h
        · exact hk _ _ h
        · exact h
  · exact h
theorem lenC_says (hK : X.K = c.g.K) : SaysC c (fun xs H Q => ∃ x n, xs = [x] ∧ L2.LenV X.K x H n ∧ Q (.int n) H) lenC := by
  intro p σ M T H M2 H2 ρ2 as vs xs Q E q r h
  unfold lenC at h
  split at h
  · obtain ⟨v, rfl, r1⟩ := r.one
    have e := r1.str
    subst e
    exact ⟨_, _, rfl, ⟨h.1, rfl⟩, h.2 _ H2 M2 [] q.drop (.v (.int _))⟩
  · obtain ⟨v, rfl, r1⟩ := r.one
    split at h
    · rename_i ds e
      obtain ⟨a, vs, rfl, t, rs⟩ := r1.tuple e
      refine ⟨_, _, rfl, .inr ⟨vs, hK ▸ t, rfl⟩, ?_⟩
      rw [rs.length]
      exact h _ H2 M2 [] q.drop (.v (.int _))
    · split at h
      · rename_i ds e
        obtain ⟨a, vs, rfl, t, rs⟩ := r1.list e
        refine ⟨_, _, rfl, .inl ⟨vs, hK ▸ t, rfl⟩, ?_⟩
        rw [rs.length]
        exact h _ H2 M2 [] q.drop (.v (.int _))
      · split at h
        · cases r1 with
          | m r1 =>
          cases r1 with
          | t ht rs =>
          refine ⟨_, _, rfl, .inr ⟨_, hK ▸ ht, rfl⟩, ?_⟩
          rw [rs.length]
          exact h _ H2 M2 [] q.drop (.v (.int _))
        · exact h.elim
  · exact h.elim
/-! isinstance of data, one built-in class -/
def tyN : D → Option String
  | .non => some "NoneType"
  | .bl _ => some "bool"
  | .int _ => some "int"
  | .str _ => some "str"
  | .tup _ => some "tuple"
  | .lst _ _ => some "list"
  | .dct _ _ => some "dict"
  | .ty _ => none
  | .fn _ => none
theorem Rep.tyx {g : Ge} {Z : Addr → Prop} {v : V} {d : D} {n : String} (r : Rep g Z M H v d) (e : tyN d = some n) : L2.TyX g.K H v (.type n) := by
  cases r with
  | non => cases e; exact .base .non
  | bl b => cases e; exact .base (.bl b)
  | int i => cases e; exact .base (.int i)
  | str s => cases e; exact .base (.str s)
  | ty _ => cases e
  | fn _ => cases e
  | tup h r =>
    cases e
    rcases h with (h | ⟨o, h⟩) | ⟨o, its, n, h1, h2, _⟩
    · exact .base (.tup h)
    · exact .fTuple h
    · exact .kTuple h1 h2
  | lst h r =>
    cases e
    rcases h with ⟨h, _⟩ | ⟨o, h⟩ | ⟨o, its, n, h1, h2, _⟩
    · exact .base (.lst h)
    · exact .base (.frz h)
    · exact .kList h1 h2
  | dct h _ _ _ => cases e; exact .base (.dK h)
def isiC (kb : String → String → Option Bool) : CR := fun xs K _ ρ => match xs with
  | [x, .v (.ty T)] => (match (asD x).bind tyN with
    | some n => (match kb n T with
      | some b => K (.v (.bl b)) ρ
      | none => False)
    | none => False)
  | _ => False
theorem isiC_mono {kb : String → String → Option Bool} : MonoC (isiC kb) := fun xs ρ K K' E E' hk _ h => by
  unfold isiC at h ⊢
  split at h
  · split at h
    · split at h
      · exact hk _ _ h
      · exact h
    · exact h
  · exact h
theorem VR.ty {v : V} {x : EV} {d : D} {n : String} (r : VR c M H v x as) (e : asD x = some d) (k : tyN d = some n) : L2.TyX c.g.K H v (.type n) := by
  cases r with
  | v r => cases e; exact r.tyx k
  | b l r =>
    cases e; cases k
    exact .base (.lst l)
  | m r =>
    cases r with
    | v r => rw [asD, frSl] at e; cases e; exact r.tyx k
    | l h r => rw [asD, frSl] at e; cases e; cases k; exact .base (.lst h)
    | @t a vs ss as h r =>
      rw [asD, frSl] at e
      cases q : frSls ss with
      | none => rw [q] at e; cases e
      | some ds =>
        rw [q] at e; cases e; cases k
        rcases h with (h | ⟨o, h⟩) | ⟨o, its, n, h1, h2, _⟩
        · exact .base (.tup h)
        · exact .fTuple h
        · exact .kTuple h1 h2
    | o _ _ _ _ _ => rw [asD, frSl] at e; cases e
    | @ll a vs ss as h r =>
      rw [asD, frSl] at e
      cases q : frSls ss with
      | none => rw [q] at e; cases e
      | some ds => rw [q] at e; cases e; cases k; exact .base (.lst h)
theorem isiC_says (hK : X.K = c.g.K) {kb : String → String → Option Bool} (hkb : ∀ a b r, kb a b = some r → L2.kitB a b = some r) : SaysC c (L2.rIsi X.K) (isiC kb) := by
  intro p σ M T H M2 H2 ρ2 as vs xs Q E q r h
  unfold isiC at h
  split at h
  · rename_i x T'
    obtain ⟨v, u, as1, as2, rfl, r1, r2, rfl⟩ := r.two
    cases r2 with
    | v r2 =>
    cases r2
    split at h
    · rename_i n e
      split at h
      · rename_i b eb
        cases e1 : asD x with
        | none => rw [e1] at e; cases e
        | some d =>
          rw [e1] at e
          exact ⟨v, _, _, _, b, rfl, .ty _, hK ▸ r1.ty e1 e, L2.kit_ty (hkb _ _ _ eb), h _ H2 M2 [] q.drop (.v (.bl _))⟩
      · exact h.elim
    · exact h.elim
  · exact h.elim
/-- what the built-in kinds are of one another -/
def kb (a b : String) : Option Bool := match a, b with
  | "int", "int" => some true
  | "bool", "int" => some true
  | "str", "int" => some false
  | "NoneType", "int" => some false
  | "tuple", "int" => some false
  | "list", "int" => some false
  | "dict", "int" => some false
  | "int", "bool" => some false
  | "bool", "bool" => some true
  | "str", "bool" => some false
  | "NoneType", "bool" => some false
  | "tuple", "bool" => some false
  | "list", "bool" => some false
  | "dict", "bool" => some false
  | "int", "str" => some false
  | "bool", "str" => some false
  | "str", "str" => some true
  | "NoneType", "str" => some false
  | "tuple", "str" => some false
  | "list", "str" => some false
  | "dict", "str" => some false
  | "int", "tuple" => some false
  | "bool", "tuple" => some false
  | "str", "tuple" => some false
  | "NoneType", "tuple" => some false
  | "tuple", "tuple" => some true
  | "list", "tuple" => some false
  | "dict", "tuple" => some false
  | "int", "list" => some false
  | "bool", "list" => some false
  | "str", "list" => some false
  | "NoneType", "list" => some false
  | "tuple", "list" => some false
  | "list", "list" => some true
  | "dict", "list" => some false
  | _, _ => none
theorem kb_ok : ∀ a b r, kb a b = some r → L2.kitB a b = some r := by
  intro a b r h
  unfold kb at h
  split at h <;> first
    | (cases h; decide +kernel)
    | cases h
end
end VS
set_option Elab.async false
set_option linter.all false
set_option maxRecDepth 100000
set_option maxHeartbeats 4000000
/-! VS6: what a def promises, calls of defs that change nothing of what they are handed; statements. Own work. -/
namespace VS
open PySem PySem.Spec PyProof.Rows
open L2 (V Hp HO upd SqL SqT Rd Cx TE TT TA TS VK XK WX PE PT PA PS PSs OpR RelV CallR Sp FnOk atI)
def pick {α : Type} : List Bool → List α → List α
  | true :: m, x :: xs => x :: pick m xs
  | false :: m, _ :: xs => pick m xs
  | _, _ => []
def retEV : EV → Bool
  | .v d => retOk d
  | .m s => retSl s
  | _ => false
/-- what a def does: from its arguments, to what it yields and what became of those that it may change -/
abbrev FS := List Sl → (EV → List Sl → Prop) → (Exc → List Sl → Prop) → Prop
def MonoF (F : FS) : Prop := ∀ ss K K' E E', (∀ x ts, K x ts → K' x ts) → (∀ x ts, E x ts → E' x ts) → F ss K E → F ss K' E'
/-- behind a call; as: what was owned of the arguments, ias: what is, ras: what the yielded thing owns -/
structure CPost (g : Ge) (Z : Addr → Prop) (mask : List Bool) (vs : List V) (as : List Addr) (H H' : Hp) (ts : List Sl) (ias ras : List Addr) : Prop where
  keep : ∀ b o, H b = some o → b ∉ as → H' b = some o
  io : RepOs g Z (fun a => a ∈ ras ++ ias) H' (pick mask vs) ts ias
  nd : (ras ++ ias).Nodup
  new : ∀ a ∈ ras ++ ias, a ∈ as ∨ H a = none
  ret : retSls ts = true
def spV (g : Ge) (mask : List Bool) (F : FS) : Sp := fun vs H Q E => ∃ (Z : Addr → Prop) (ss : List Sl) (as : List Addr),
  (∀ a, Z a → H a ≠ none) ∧ (∀ a ∈ as, ¬ Z a) ∧ RepOs g Z (fun a => a ∈ as) H vs ss as ∧ as.Nodup ∧ ss.length = mask.length ∧
  F ss (fun x ts => ∀ v H' ras ias, CPost g Z mask vs as H H' ts ias ras → VRg g Z (fun a => a ∈ ras ++ ias) H' v x ras → retEV x = true → Q v H')
    (fun x ts => ∀ cls dd H' ias, CPost g Z mask vs as H H' ts ias [] → XRg g Z (fun a => a ∈ ias) H' cls dd x → retOks x.ds = true → E cls dd H')
/-! ### calls of defs that change nothing -/
def argD : EV → Option D
  | .v d => some d
  | .b ds => some (.lst false ds)
  | .m s => frSl s
  | .p _ => none
def argDs : List EV → Option (List D)
  | [] => some []
  | x :: xs => (argD x).bind fun d => (argDs xs).map (d :: ·)
def callP (F : FS) (dd : List D) (g : AS) : ES := fun ρ K E => g ρ (fun xs ρ1 => match argDs xs with
  | some ds => F ((ds ++ dd).map .v) (fun x _ => K x ρ1) (fun x _ => E x ρ1)
  | none => False) E
section
variable {X : Cx} {c : Fr} {W : WX} {p p1 p2 : Bool} {M M' M2 : Addr → Prop} {T T' as as1 as2 : List Addr} {σ : L2.St} {H H' H2 : Hp} {ρ ρ' ρ2 : Rho}
theorem SR.noZ (s : SR c M T σ H ρ) {a : Addr} (h : M a) : ¬ c.Z a := fun z => by
  rcases s.src a h with q | q
  · exact c.zi a q z
  · exact c.zd a z q
theorem VRs.argDs : ∀ {vs : List V} {xs : List EV} {as : List Addr} {ds : List D}, VRs c M H vs xs as → argDs xs = some ds → (∀ a ∈ as, ¬ c.Z a) →
    Reps c.g (fun a => c.Z a ∨ (M a ∧ a ∉ as)) (fun _ => False) H vs ds
  | _, _, _, _, .nil, e, _ => by rw [VS.argDs] at e; cases e; exact .nil
  | _, x :: xs, _, _, .cons (as := as1) (bs := as2) r rs, e, hz => by
    rw [VS.argDs] at e
    cases q : argD x with
    | none => rw [q] at e; cases e
    | some d =>
      cases q2 : VS.argDs xs with
      | none => rw [q, q2] at e; cases e
      | some ds =>
        rw [q, q2] at e; cases e
        have rs' := rs.argDs q2 (fun a h => hz a (List.mem_append_left _ h))
        refine .cons ?_ (rs'.re (fun _ _ z => z) fun a _ _ h k => h ?_)
        · cases r with
          | v r => cases q; exact r.re (fun _ _ _ z => z) fun a _ n z k => k.elim z fun y => n y.1
          | b l r =>
            cases q
            have r' : Reps c.g (fun a => c.Z a ∨ (M a ∧ a ∉ as2 ++ [])) (fun _ => False) H _ _ := r.re (fun _ _ _ z => z) fun a _ n z k => k.elim z fun y => n y.1
            exact .lst (.inl ⟨l, fun z => z, fun z => nomatch z⟩) r'
          | m r =>
            have r' : RepO c.g (fun a => c.Z a ∨ (M a ∧ a ∉ as2 ++ as1)) (fun _ => False) H _ _ as1 := r.re (fun _ _ _ z => z) fun a _ n z k => k.elim z fun y => n y.1
            exact r'.freeze q fun a ha => ⟨fun z => z, fun k => k.elim (hz a (List.mem_append_right _ ha)) fun y => y.2 (List.mem_append_right _ ha)⟩
        · rcases k with k | ⟨k1, k2⟩
          · exact .inl k
          · exact .inr ⟨k1, fun y => k2 (List.mem_append_left _ y)⟩
theorem repOs_v {g : Ge} {Z : Addr → Prop} : ∀ {vs : List V} {ds : List D}, Reps g Z M H vs ds → RepOs g Z M H vs (ds.map .v) []
  | _, _, .nil => .nil
  | _, _, .cons r rs => .cons (as := []) (bs := []) (.v r) (repOs_v rs)
theorem pick_no {α : Type} : ∀ {m : List Bool} {xs : List α}, (∀ b ∈ m, b = false) → pick m xs = []
  | [], _, _ => by unfold pick; rfl
  | true :: _, _, h => absurd (h true List.mem_cons_self) (by simp)
  | false :: m, [], _ => rfl
  | false :: m, _ :: xs, h => pick_no (xs := xs) fun b hb => h b (List.mem_cons_of_mem _ hb)
/-- behind a call that changed nothing: the temporaries of the arguments are nobody's -/
theorem Post.call {ras : List Addr} (q : Post c p σ M T H M' (as ++ T) H' ρ') (x : Ext H' H2) (nd : ras.Nodup) (new : ∀ a ∈ ras, H' a = none) (ty : ∀ a ∈ ras, Typed H2 a) :
    Post c p σ M T H (fun a => (M' a ∧ a ∉ as) ∨ a ∈ ras) (ras ++ T) H2 ρ' := by
  obtain ⟨Ms, r, ndM, al⟩ := q.sr.slots
  obtain ⟨n1, n2, n3⟩ := List.nodup_append.mp ndM
  obtain ⟨m1, m2, m3⟩ := List.nodup_append.mp n2
  have r1 : RepS c.g c.Z (fun a => M' a ∧ a ∉ as) H' σ ρ' Ms := r.re (fun _ _ n z => n z.1) fun _ _ _ z => z
  have mv : Moved (fun _ => False) (fun a => M' a ∧ a ∉ as) (fun a => (M' a ∧ a ∉ as) ∨ a ∈ ras) H' H2 := ⟨fun b o e _ => x b o e, fun _ h => h.elim, fun _ h => h.elim, fun a h => h.imp id (new a)⟩
  have tr : ∀ a, M' a → a ∉ ras := fun a h z => (q.sr.ty a h).ne (new a z)
  refine ⟨⟨⟨Ms, r1.moved mv fun _ _ z => z, ?_, fun a ha => ?_⟩, fun a ha => ?_, fun a ha => ?_, fun b o e h => x b o (q.sr.keep b o e h), q.sr.pin, q.sr.ln⟩, fun b o e h => x b o (q.keep b o e h), fun a ha => ?_, fun e => (q.pu e).trans x⟩
  · refine List.nodup_append.mpr ⟨n1, List.nodup_append.mpr ⟨nd, m2, fun a ha b hb e => tr b (al b (List.mem_append_right _ (List.mem_append_right _ hb))) (e ▸ ha)⟩, fun a ha b hb e => ?_⟩
    rcases List.mem_append.mp hb with hb | hb
    · exact tr a (al a (List.mem_append_left _ ha)) (e ▸ hb)
    · exact n3 a ha b (List.mem_append_right _ hb) e
  · rcases List.mem_append.mp ha with ha | ha
    · exact .inl ⟨al a (List.mem_append_left _ ha), fun z => n3 a ha a (List.mem_append_left _ z) rfl⟩
    · rcases List.mem_append.mp ha with ha | ha
      · exact .inr ha
      · exact .inl ⟨al a (List.mem_append_right _ (List.mem_append_right _ ha)), fun z => m3 a z a ha rfl⟩
  · rcases ha with ha | ha
    · rcases q.sr.ty a ha.1 with ⟨_, e⟩ | ⟨_, _, _, e⟩
      · exact .inl ⟨_, x _ _ e⟩
      · exact .inr ⟨_, _, _, x _ _ e⟩
    · exact ty a ha
  · rcases ha with ha | ha
    · exact q.sr.src a ha.1
    · by_cases z : a ∈ c.io
      · exact .inl z
      · refine .inr ?_
        cases e : c.H0 a with
        | none => rfl
        | some u => have := q.sr.keep a u e z; rw [new a ha] at this; cases this
  · rcases ha with ha | ha
    · exact q.new a ha.1
    · by_cases z : M a
      · exact .inl z
      · refine .inr ?_
        cases e : H a with
        | none => rfl
        | some u => have := q.keep a u e (fun y => absurd y z); rw [new a ha] at this; cases this
theorem VRg.back {g : Ge} {Z Z' : Addr → Prop} (hM : ∀ a, H a ≠ none → ¬ M a → ¬ Z a → ¬ M' a) (hZ : ∀ a, H a ≠ none → ¬ M a → ¬ Z a → ¬ Z' a) {v : V} {x : EV} {as : List Addr} (r : VRg g Z M H v x as) (k : retEV x = true) : VRg g Z' M' H v x as := by
  cases r with
  | v r => exact .v (r.back hM hZ k)
  | b _ _ => exact absurd k (by simp [retEV])
  | m r => exact .m (r.back hM hZ k)
theorem VRg.typed {g : Ge} {Z : Addr → Prop} {v : V} {x : EV} {as : List Addr} (r : VRg g Z M H v x as) : ∀ a ∈ as, Typed H a := by
  cases r with
  | v _ => exact fun a h => absurd h (by simp)
  | b _ _ => exact fun a h => absurd h (by simp)
  | m r => exact r.typed
theorem XRg.back {g : Ge} {Z Z' : Addr → Prop} (hM : ∀ a, H a ≠ none → ¬ M a → ¬ Z a → ¬ M' a) (hZ : ∀ a, H a ≠ none → ¬ M a → ¬ Z a → ¬ Z' a) {cls : Value} {dd : Option Addr} {x : Exc} (r : XRg g Z M H cls dd x) (k : retOks x.ds = true) : XRg g Z' M' H cls dd x := by
  cases r with
  | no h => exact .no h
  | yes h h1 h2 h3 r => exact .yes h h1 h2 h3 (r.back hM hZ k)
theorem callP_run {mask : List Bool} {F : FS} {dvs : List V} {dd : List D} (hdd : ∀ Z M H, Reps c.g Z M H dvs dd) {es : List Expr} {g : AS} {E : L2.St → XK} (hm : ∀ b ∈ mask, b = false) (hF : MonoF F) (hl : ∀ ss K E, F ss K E → ss.length = mask.length) (ha : AJ X c W p es g) (hE : ∀ σ cls dd H, W cls dd σ H → E σ cls dd H) :
    ∀ σ H Q, rdE c W p (callP F dd g) σ H Q → rdA c W p g σ H (fun vs H1 => spV c.g mask F (vs ++ dvs) H1 Q (E σ)) := by
  rintro σ H Q ⟨ρ, M, T, s, h⟩
  refine ⟨ρ, M, T, s, ha.mono _ _ _ _ _ (fun xs ρ1 k vs H1 M1 as q r => ?_) (fun _ _ h => h) h⟩
  split at k
  · rename_i ds e
    have hz : ∀ a ∈ as, ¬ c.Z a := fun a ha => by
      obtain ⟨Ms, _, _, al⟩ := q.sr.slots
      exact q.sr.noZ (al a (List.mem_append_right _ (List.mem_append_left _ ha)))
    have r' := (r.argDs e hz).append (hdd (fun a => c.Z a ∨ (M1 a ∧ a ∉ as)) (fun _ => False) H1)
    refine ⟨fun a => c.Z a ∨ (M1 a ∧ a ∉ as), (ds ++ dd).map .v, [], fun a z => ?_, fun _ h => absurd h (by simp), (repOs_v r').re (fun _ _ _ z => absurd z (by simp)) (fun _ _ _ z => z), .nil, hl _ _ _ k, hF _ _ _ _ _ (fun x ts k v H2 ras ias cp rv re => ?_) (fun x ts k cls dd H2 ias cp rx re => ?_) k⟩
    · rcases z with z | z
      · intro e2
        by_cases y : a ∈ c.io
        · exact c.zi a y z
        · cases e3 : c.H0 a with
          | none => exact c.zd a z e3
          | some o => have := q.sr.keep a o e3 y; rw [e2] at this; cases this
      · exact (q.sr.ty a z.1).ne
    · have ei : ias = [] ∧ ts = [] := by
        have := cp.io
        rw [pick_no hm] at this
        cases this; exact ⟨rfl, rfl⟩
      obtain ⟨rfl, rfl⟩ := ei
      have x2 : Ext H1 H2 := fun b o e => cp.keep b o e (by simp)
      have new : ∀ a ∈ ras, H1 a = none := fun a ha => by
        rcases cp.new a (List.mem_append_left _ ha) with z | z
        · exact absurd z (by simp)
        · exact z
      have nd : ras.Nodup := by simpa using cp.nd
      refine k v H2 (fun a => (M1 a ∧ a ∉ as) ∨ a ∈ ras) ras (q.call x2 nd new rv.typed) (rv.back (fun a _ n z y => ?_) (fun a _ n z y => z (.inl y)) re)
      rcases y with y | y
      · exact z (.inr y)
      · exact n (List.mem_append_left _ y)
    · have ei : ias = [] ∧ ts = [] := by
        have := cp.io
        rw [pick_no hm] at this
        cases this; exact ⟨rfl, rfl⟩
      obtain ⟨rfl, rfl⟩ := ei
      have x2 : Ext H1 H2 := fun b o e => cp.keep b o e (by simp)
      have q2 := q.weak.call x2 (ras := []) .nil (fun a h => absurd h (by simp)) (fun a h => absurd h (by simp))
      refine hE _ _ _ _ (k cls dd H2 _ q2 (rx.back (fun a _ n z y => ?_) (fun a _ n z y => z (.inl y)) re))
      rcases y with y | y
      · exact z (.inr y)
      · exact absurd y (by simp)
  · exact k.elim
theorem callP_mono {F : FS} {dd : List D} {g : AS} (hF : MonoF F) (hg : MonoA g) : Mono (callP F dd g) := fun ρ K K' E E' hk he h => hg _ _ _ _ _ (fun xs ρ1 h => by
  split at h
  · exact hF _ _ _ _ _ (fun x _ h => hk _ _ h) (fun x _ h => he _ _ h) h
  · exact h) he h
/-- f(e, ..): the def at f; dd: what its defaults stand for -/
theorem ej_callP {mask : List Bool} {F : FS} {k : Nat} {f : Addr} {fd : FuncData} {ps : List Str} {x : Str} {pp pos : Pos} {e : Expr} {es : List Expr} {g : AS} {dvs : List V} {dus : List Value} {dd : List D} (hF : MonoF F) (hl : ∀ ss K E, F ss K E → ss.length = mask.length) (hm : ∀ b ∈ mask, b = false)
    (G : FnOk X.prog X.w X.K X.mg X.base (L2.CX X.prog X.w) k f fd ps (spV c.g mask F)) (hr : L2.Room k X.A) (hg : L2.Gl X x) (hmg : X.mg x = some (.ref f)) (hk : PySem.W.keepIn X.K (.ref f) = true) (hb : L2.Binds X.K fd ps dus) (hd : L2.Vals dvs dus) (hdd : ∀ Z M H, Reps c.g Z M H dvs dd) (tk : L2.Takes X W)
    (ha : AJ X c W p (e :: es) g) (hdb : (x == ("__debug__" : Str)) = false := by decide) (he : starEach (e :: es) X.env = (false, eval e X.env) :: starEach es X.env := by rfl) (hpl : (backTo pos (starEach es X.env)).any (·.1) = false := by rfl) :
    EJ X c W p (.Call (.Name x pp) (e :: es) [] pos) (callP F dd g) :=
  ⟨callP_mono hF ha.mono, PE.imp (L2.pe_callSD (E := L2.WE W) G hr hg hmg hk hb hd (fun σ => L2.passAt tk σ) ha.run hdb he hpl) (callP_run hdd hm hF hl ha fun _ _ _ _ h => h)⟩
end
/-! ### statements -/
structure SK where
  nx : Rho → Prop
  rt : EV → Rho → Prop
  ex : Exc → Rho → Prop
  bk : Rho → Prop
  ct : Rho → Prop
def SK.le (a b : SK) : Prop := (∀ ρ, a.nx ρ → b.nx ρ) ∧ (∀ x ρ, a.rt x ρ → b.rt x ρ) ∧ (∀ x ρ, a.ex x ρ → b.ex x ρ) ∧ (∀ ρ, a.bk ρ → b.bk ρ) ∧ (∀ ρ, a.ct ρ → b.ct ρ)
abbrev SS := Rho → SK → Prop
def MonoS (f : SS) : Prop := ∀ ρ k k', SK.le k k' → f ρ k → f ρ k'
theorem SK.le.refl (k : SK) : SK.le k k := ⟨fun _ h => h, fun _ _ h => h, fun _ _ h => h, fun _ h => h, fun _ h => h⟩
/-- the ends of a statement from (M, T, H) -/
def skOf (c : Fr) (W : WX) (D : L2.Ends) (M : Addr → Prop) (T : List Addr) (H : Hp) : SK where
  nx ρ' := ∀ σ' H' M', Post c false σ' M T H M' T H' ρ' → D.nx σ' H'
  rt x ρ' := ∀ σ' v H' M' as, Post c false σ' M T H M' (as ++ T) H' ρ' → VR c M' H' v x as → D.rt v H'
  ex x ρ' := ∀ σ' cls dd H' M', Post c false σ' M T H M' T H' ρ' → XRep c M' H' cls dd x → W cls dd σ' H'
  bk ρ' := ∀ σ' H' M', Post c false σ' M T H M' T H' ρ' → D.bk σ' H'
  ct ρ' := ∀ σ' H' M', Post c false σ' M T H M' T H' ρ' → D.ct σ' H'
def rdS (c : Fr) (W : WX) (f : SS) : TS := fun D σ H => ∃ ρ M T, SR c M T σ H ρ ∧ f ρ (skOf c W D M T H)
structure SJ (X : Cx) (c : Fr) (W : WX) (st : Stmt) (f : SS) : Prop where
  mono : MonoS f
  run : PS X st (rdS c W f)
structure SJs (X : Cx) (c : Fr) (W : WX) (sts : List Stmt) (f : SS) : Prop where
  mono : MonoS f
  run : PSs X sts (rdS c W f)
theorem PS.imp {X : Cx} {st : Stmt} {t t' : TS} (h : PS X st t) (i : ∀ D σ H, t' D σ H → t D σ H) : PS X st t' := ⟨fun pins s σ H D I q => h.run pins s σ H D I (i D σ H q)⟩
theorem PSs.imp {X : Cx} {st : List Stmt} {t t' : TS} (h : PSs X st t) (i : ∀ D σ H, t' D σ H → t D σ H) : PSs X st t' := ⟨fun pins s σ H D I q => h.run pins s σ H D I (i D σ H q)⟩
section
variable {X : Cx} {c : Fr} {W : WX} {p p1 p2 : Bool} {M M1 M' M2 : Addr → Prop} {T T' as as1 as2 : List Addr} {σ σ1 : L2.St} {H H1 H' H2 : Hp} {ρ ρ1 ρ' ρ2 : Rho} {De : L2.Ends}
/-- from a state on the way to the ends: what is wanted of the rest -/
theorem skOf_after (q : Post c p σ1 M T H M1 T H1 ρ1) : SK.le (skOf c W De M T H) (skOf c W De M1 T H1) :=
  ⟨fun ρ' k σ' H' M' q2 => k σ' H' M' (q.trans q2 fun _ z => z).weak, fun x ρ' k σ' v H' M' as q2 r => k σ' v H' M' as (q.trans q2 fun _ z => z).weak r,
   fun x ρ' k σ' cls dd H' M' q2 r => k σ' cls dd H' M' (q.trans q2 fun _ z => z).weak r, fun ρ' k σ' H' M' q2 => k σ' H' M' (q.trans q2 fun _ z => z).weak, fun ρ' k σ' H' M' q2 => k σ' H' M' (q.trans q2 fun _ z => z).weak⟩
def nxS : SS := fun ρ k => k.nx ρ
def seqS (f g : SS) : SS := fun ρ k => f ρ { k with nx := fun ρ' => g ρ' k }
theorem seqS_mono {f g : SS} (hf : MonoS f) (hg : MonoS g) : MonoS (seqS f g) := fun ρ k k' l h => hf _ { k with nx := fun ρ' => g ρ' k } _ ⟨fun ρ' q => hg _ _ _ l q, l.2.1, l.2.2.1, l.2.2.2.1, l.2.2.2.2⟩ h
theorem sjs_nil : SJs X c W [] nxS := ⟨fun ρ k k' l h => l.1 _ h, PSs.imp L2.pss_nil fun D σ H ⟨ρ, M, T, s, h⟩ => h σ H M (Post.refl s)⟩
theorem sjs_one {st : Stmt} {f : SS} (h : SJ X c W st f) : SJs X c W [st] f := ⟨h.mono, L2.pss_one h.run⟩
theorem sjs_cons {st : Stmt} {sts : List Stmt} {f g : SS} (h : SJ X c W st f) (hs : SJs X c W sts g) : SJs X c W (st :: sts) (seqS f g) := by
  refine ⟨seqS_mono h.mono hs.mono, PSs.imp (L2.pss_cons h.run hs.run) ?_⟩
  rintro D σ H ⟨ρ, M, T, s, k⟩
  exact ⟨ρ, M, T, s, h.mono _ { skOf c W D M T H with nx := fun ρ' => g ρ' (skOf c W D M T H) } _ ⟨fun ρ' k σ' H' M' q => ⟨ρ', M', T, q.sr, hs.mono _ _ _ (skOf_after q) k⟩, fun _ _ h => h, fun _ _ h => h, fun _ h => h, fun _ h => h⟩ k⟩
def bkS : SS := fun ρ k => k.bk ρ
def ctS : SS := fun ρ k => k.ct ρ
/-- an expression, its value dropped -/
def exprS (f : ES) : SS := fun ρ k => f ρ (fun _ ρ' => k.nx ρ') k.ex
theorem exc_le (x : Exc) (ρ' : Rho) (h : (skOf c W De M T H).ex x ρ') : ∀ cls dd H' M', Post c false σ M T H M' T H' ρ' → XRep c M' H' cls dd x → W cls dd σ H' := fun cls dd H' M' q r => h σ cls dd H' M' q r
theorem sj_expr {e : Expr} {f : ES} {pos : Pos} (h : EJ X c W p e f) (hs : swapsWith e none pos.line X.env = pure false := by rfl) : SJ X c W (.Expr e pos) (exprS f) := by
  refine ⟨fun ρ k k' l q => h.mono _ _ _ _ _ (fun _ _ => l.1 _) (fun _ _ => l.2.2.1 _ _) q, PS.imp (L2.ps_expr h.run hs) ?_⟩
  rintro D σ H ⟨ρ, M, T, s, k⟩
  exact ⟨ρ, M, T, s, h.mono _ _ _ _ _ (fun x ρ' k v H' M' as q r => k σ H' M' q.drop.weak) (fun x ρ' k => exc_le x ρ' k) k⟩
def retS (f : ES) : SS := fun ρ k => f ρ (fun x ρ' => k.rt x ρ') k.ex
theorem sj_ret {e : Expr} {f : ES} {pos : Pos} (h : EJ X c W p e f) : SJ X c W (.Return (some e) pos) (retS f) := by
  refine ⟨fun ρ k k' l q => h.mono _ _ _ _ _ (fun _ _ => l.2.1 _ _) (fun _ _ => l.2.2.1 _ _) q, PS.imp (L2.ps_ret h.run) ?_⟩
  rintro D σ H ⟨ρ, M, T, s, k⟩
  exact ⟨ρ, M, T, s, h.mono _ _ _ _ _ (fun x ρ' k v H' M' as q r => k σ v H' M' as q.weak r) (fun x ρ' k => exc_le x ρ' k) k⟩
def retNS : SS := fun ρ k => k.rt (.v .non) ρ
def ifS (t : BS) (f g : SS) : SS := fun ρ k => t ρ (fun b ρ' => if b = true then f ρ' k else g ρ' k) k.ex
theorem sj_if {ct : Expr} {a b : List Stmt} {t : BS} {f g : SS} {pos : Pos} (hc : TJ X c W p ct t) (ha : SJs X c W a f) (hb : SJs X c W b g) : SJ X c W (.If ct a b pos) (ifS t f g) := by
  refine ⟨fun ρ k k' l q => hc.mono _ _ _ _ _ (fun b ρ' q => ?_) (fun _ _ => l.2.2.1 _ _) q, PS.imp (L2.ps_if hc.run ha.run hb.run) ?_⟩
  · split at q
    · rename_i h; rw [if_pos h]; exact ha.mono _ _ _ l q
    · rename_i h; rw [if_neg h]; exact hb.mono _ _ _ l q
  · rintro D σ H ⟨ρ, M, T, s, k⟩
    refine ⟨ρ, M, T, s, hc.mono _ _ _ _ _ (fun b ρ' k H' M' q => ?_) (fun x ρ' k => exc_le x ρ' k) k⟩
    split at k
    · rename_i h; rw [if_pos h]; exact ⟨ρ', M', T, q.sr, ha.mono _ _ _ (skOf_after q) k⟩
    · rename_i h; rw [if_neg h]; exact ⟨ρ', M', T, q.sr, hb.mono _ _ _ (skOf_after q) k⟩
end
/-! ### what a name is given -/
def evSl : EV → Option Sl
  | .v d => some (.v d)
  | .m s => some s
  | .b _ => none
  | .p _ => none
/-- name = value; fz: what is owned is owned no more -/
def setS (i : Nat) (fz : Bool) (f : ES) : SS := fun ρ k => f ρ (fun x ρ' => match evSl x with
  | some s => (match (if fz then (frSl s).map .v else some s) with
    | some s' => i < ρ'.length ∧ k.nx (ρ'.set i s')
    | none => False)
  | none => False) k.ex
section
variable {X : Cx} {c : Fr} {W : WX} {p p1 p2 : Bool} {M M1 M' M2 : Addr → Prop} {T T' as as1 as2 : List Addr} {σ σ1 : L2.St} {H H1 H' H2 : Hp} {ρ ρ1 ρ' ρ2 : Rho} {De : L2.Ends}
/-- a value on its way goes into a slot -/
theorem Post.put {i : Nat} {v : V} {s : Sl} (q : Post c p σ M T H M' (as ++ T) H' ρ') (r : RepO c.g c.Z M' H' v s as) (hi : i < ρ'.length) (hm : c.mask[i]? ≠ some true) : Post c p (σ.set i (some v)) M T H M' T H' (ρ'.set i s) := by
  obtain ⟨Ms, rs, nd, al⟩ := q.sr.slots
  obtain ⟨n1, n2, n3⟩ := List.nodup_append.mp nd
  obtain ⟨m1, m2, m3⟩ := List.nodup_append.mp n2
  obtain ⟨Ms', rs', h1, h2⟩ := RepS.put r rs hi
  refine ⟨⟨⟨Ms', rs', ?_, fun a ha => ?_⟩, q.sr.ty, q.sr.src, q.sr.keep, fun j hj => ?_, by rw [List.length_set]; exact q.sr.ln⟩, q.keep, q.new, q.pu⟩
  · refine List.nodup_append.mpr ⟨h2 n1 m1 fun a ha z => n3 a z a (List.mem_append_left _ ha) rfl, m2, fun a ha b hb e => ?_⟩
    rcases h1 a ha with z | z
    · exact n3 a z b (List.mem_append_right _ hb) e
    · exact m3 a z b hb e
  · rcases List.mem_append.mp ha with z | z
    · rcases h1 a z with z | z
      · exact al a (List.mem_append_left _ z)
      · exact al a (List.mem_append_right _ (List.mem_append_left _ z))
    · exact al a (List.mem_append_right _ (List.mem_append_right _ z))
  · have ne : i ≠ j := fun e => hm (e ▸ hj)
    rw [List.getElem?_set_ne ne]; exact q.sr.pin j hj
theorem VRg.sl {g : Ge} {Z : Addr → Prop} {v : V} {x : EV} {s : Sl} (r : VRg g Z M H v x as) (e : evSl x = some s) : RepO g Z M H v s as := by
  cases r with
  | v r => cases e; exact .v r
  | b _ _ => cases e
  | m r => cases e; exact r
/-- a value on its way is owned no more -/
theorem Post.frz {v : V} {s : Sl} {d : D} (q : Post c p σ M T H M' (as ++ T) H' ρ') (r : RepO c.g c.Z M' H' v s as) (e : frSl s = some d) : Post c p σ M T H (fun a => M' a ∧ a ∉ as) ([] ++ T) H' ρ' ∧ Rep c.g c.Z (fun a => M' a ∧ a ∉ as) H' v d := by
  have q2 := q.call (Ext.refl _) (ras := []) .nil (fun a h => absurd h (by simp)) (fun a h => absurd h (by simp))
  have eM : (fun a => (M' a ∧ a ∉ as) ∨ a ∈ ([] : List Addr)) = fun a => M' a ∧ a ∉ as := by funext a; simp
  rw [eM] at q2
  refine ⟨q2, (r.re (M' := fun a => M' a ∧ a ∉ as) (fun a _ n z => n z.1) fun _ _ _ z => z).freeze e fun a ha => ⟨fun z => z.2 ha, ?_⟩⟩
  obtain ⟨Ms, _, _, al⟩ := q.sr.slots
  exact q.sr.noZ (al a (List.mem_append_right _ (List.mem_append_left _ ha)))
theorem setS_mono {i : Nat} {fz : Bool} {f : ES} (hf : Mono f) : MonoS (setS i fz f) := fun ρ k k' l q => hf _ _ _ _ _ (fun x ρ' q => by
  split at q
  · split at q
    · exact ⟨q.1, l.1 _ q.2⟩
    · exact q
  · exact q) (fun _ _ => l.2.2.1 _ _) q
theorem setS_run {i : Nat} {fz : Bool} {f : ES} (hf : Mono f) (hm : c.mask[i]? ≠ some true) : ∀ D σ H, rdS c W (setS i fz f) D σ H → rdE c W p f σ H (fun v H1 => D.nx (σ.set i (some v)) H1) := by
  rintro D σ H ⟨ρ, M, T, s, k⟩
  refine ⟨ρ, M, T, s, hf _ _ _ _ _ (fun x ρ' k v H' M' as q r => ?_) (fun x ρ' k => exc_le x ρ' k) k⟩
  split at k
  · rename_i s' e
    have ro := r.sl e
    cases fz with
    | false => exact k.2 _ H' M' (q.weak.put ro k.1 hm)
    | true =>
      cases e2 : frSl s' with
      | none => simp [e2] at k
      | some d =>
        simp only [e2, if_true, Option.map_some] at k
        obtain ⟨q2, r2⟩ := q.weak.frz ro e2
        exact k.2 _ H' _ (q2.put (as := []) (.v r2) k.1 hm)
  · exact k.elim
theorem sj_set {i : Nat} {fz : Bool} {x : Str} {e : Expr} {f : ES} {pos pos' : Pos} (h : EJ X c W p e f) (hm : c.mask[i]? ≠ some true) (hN : X.N.Nodup) (hi : X.N[i]? = some x) (hx : L2.Loc X.env.scope x) (hs : swapsWith e (some (.Name x pos')) pos.line X.env = pure false := by rfl) (hf : X.fn x = true ∨ X.env.scope.names.lookup x = some .local := by first | exact .inl rfl | exact .inr rfl | assumption) :
    SJ X c W (.Assign [.Name x pos'] e pos) (setS i fz f) := ⟨setS_mono h.mono, PS.imp (L2.ps_set hN hi hx h.run hs hf) fun D σ H q => setS_run h.mono hm D σ H q⟩
end
end VS
set_option Elab.async false
set_option linter.all false
set_option maxRecDepth 100000
set_option maxHeartbeats 4000000
/-! VS7: targets, loops. Own work. -/
namespace VS
open PySem PySem.Spec PyProof.Rows
open L2 (V Hp HO upd SqL SqT Rd Cx TE TT TA TS TG TGs VK XK WX PE PT PA PS PSs PG PGs OpR RelV CallR Sp FnOk atI)
/-- the ends of a loop's body: w, what is wanted of the next turn -/
def SK.loop (k : SK) (w : Rho → Prop) : SK := ⟨w, k.rt, k.ex, k.nx, w⟩
/-! ### while -/
def whileN (t : BS) (f : SS) : Nat → SS
  | 0 => fun _ _ => False
  | n + 1 => fun ρ k => t ρ (fun b ρ' => if b = true then f ρ' (k.loop fun ρ2 => whileN t f n ρ2 k) else k.nx ρ') k.ex
def whileS (t : BS) (f : SS) : SS := fun ρ k => ∃ n, whileN t f n ρ k
section
variable {X : Cx} {c : Fr} {W : WX} {p p1 p2 : Bool} {M M1 M' M2 : Addr → Prop} {T T' as as1 as2 : List Addr} {σ σ1 : L2.St} {H H1 H' H2 : Hp} {ρ ρ1 ρ' ρ2 : Rho}
theorem whileN_mono {t : BS} {f : SS} (ht : MonoB t) (hf : MonoS f) : ∀ n, MonoS (whileN t f n)
  | 0 => fun _ _ _ _ h => h.elim
  | n + 1 => fun ρ k k' l h => ht _ _ _ _ _ (fun b ρ' h => by
      split at h
      · rename_i hb; rw [if_pos hb]
        exact hf _ (k.loop fun ρ2 => whileN t f n ρ2 k) (k'.loop fun ρ2 => whileN t f n ρ2 k') ⟨fun ρ2 h => whileN_mono ht hf n _ _ _ l h, l.2.1, l.2.2.1, l.1, fun ρ2 h => whileN_mono ht hf n _ _ _ l h⟩ h
      · rename_i hb; rw [if_neg hb]; exact l.1 _ h) (fun _ _ => l.2.2.1 _ _) h
theorem sj_while {ct : Expr} {body : List Stmt} {t : BS} {f : SS} {pos : Pos} (hp : PassesOwn (model X.prog X.w) X.A X.env X.xe) (hc : TJ X c W p ct t) (hb : SJs X c W body f) : SJ X c W (.While ct body [] pos) (whileS t f) := by
  refine ⟨fun ρ k k' l ⟨n, h⟩ => ⟨n, whileN_mono hc.mono hb.mono n _ _ _ l h⟩, PS.imp (L2.ps_while hp hc.run hb.run) ?_⟩
  rintro D σ H ⟨ρ, M, T, s, n, k⟩
  refine ⟨fun m σ H => ∃ ρ M T, SR c M T σ H ρ ∧ whileN t f m ρ (skOf c W D M T H), ⟨n, ρ, M, T, s, k⟩, ?_⟩
  rintro m σ H ⟨ρ, M, T, s, k⟩
  cases m with
  | zero => exact k.elim
  | succ m =>
    refine ⟨ρ, M, T, s, hc.mono _ _ _ _ _ (fun b ρ' k H1 M1 q => ?_) (fun x ρ' k => exc_le x ρ' k) k⟩
    split at k
    · rename_i hb'; rw [if_pos hb']
      refine ⟨fun σ H => ∃ ρ M T, SR c M T σ H ρ ∧ whileN t f m ρ (skOf c W D M T H), fun σ' H' h => ⟨m, Nat.lt_succ_self m, h⟩, ρ', M1, T, q.sr, hb.mono _ ((skOf c W D M T H).loop fun ρ2 => whileN t f m ρ2 (skOf c W D M T H)) _ ⟨fun ρ2 k σ2 H2 M2 q2 => ?_, fun x ρ2 k => (skOf_after (W := W) (De := D) q).2.1 x ρ2 k, fun x ρ2 k => (skOf_after (W := W) (De := D) q).2.2.1 x ρ2 k, fun ρ2 k => (skOf_after (W := W) (De := D) q).1 ρ2 k, fun ρ2 k σ2 H2 M2 q2 => ?_⟩ k⟩
      · exact ⟨ρ2, M2, T, q2.sr, whileN_mono hc.mono hb.mono m _ _ _ (skOf_after (q.trans q2 fun _ z => z)) k⟩
      · exact ⟨ρ2, M2, T, q2.sr, whileN_mono hc.mono hb.mono m _ _ _ (skOf_after (q.trans q2 fun _ z => z)) k⟩
    · rename_i hb'; rw [if_neg hb']; exact k σ H1 M1 q.weak
end
/-! ### targets -/
abbrev GS := Sl → Rho → (Rho → Prop) → Prop
def MonoG (f : GS) : Prop := ∀ s ρ K K', (∀ ρ', K ρ' → K' ρ') → f s ρ K → f s ρ K'
def rdG (c : Fr) (f : GS) : TG := fun v σ H Q => ∃ ρ M T s as, SR c M (as ++ T) σ H ρ ∧ RepO c.g c.Z M H v s as ∧ f s ρ (fun ρ' => ∀ σ' M', SR c M' T σ' H ρ' → (∀ a, M' a → M a) → Q σ' H)
structure GJ (X : Cx) (c : Fr) (e : Expr) (f : GS) : Prop where
  mono : MonoG f
  run : PG X e (rdG c f)
abbrev GSs := List Sl → Rho → (Rho → Prop) → Prop
def MonoGs (f : GSs) : Prop := ∀ s ρ K K', (∀ ρ', K ρ' → K' ρ') → f s ρ K → f s ρ K'
def rdGs (c : Fr) (f : GSs) : TGs := fun vs σ H Q => ∃ ρ M T ss as, SR c M (as ++ T) σ H ρ ∧ RepOs c.g c.Z M H vs ss as ∧ f ss ρ (fun ρ' => ∀ σ' M', SR c M' T σ' H ρ' → (∀ a, M' a → M a) → Q σ' H)
structure GJs (X : Cx) (c : Fr) (es : List Expr) (f : GSs) : Prop where
  mono : MonoGs f
  run : PGs X es (rdGs c f)
theorem PG.imp {X : Cx} {e : Expr} {t t' : TG} (h : PG X e t) (i : ∀ v σ H Q, t' v σ H Q → t v σ H Q) : PG X e t' := ⟨fun pins s σ H v u Q I r q => h.run pins s σ H v u Q I r (i v σ H Q q)⟩
theorem PGs.imp {X : Cx} {e : List Expr} {t t' : TGs} (h : PGs X e t) (i : ∀ v σ H Q, t' v σ H Q → t v σ H Q) : PGs X e t' := ⟨fun pins s σ H v u Q I r q => h.run pins s σ H v u Q I r (i v σ H Q q)⟩
def gN (i : Nat) (fz : Bool) : GS := fun s ρ K => match (if fz then (frSl s).map .v else some s) with
  | some s' => i < ρ.length ∧ K (ρ.set i s')
  | none => False
def gNil : GSs := fun ss ρ K => match ss with
  | [] => K ρ
  | _ => False
def gCons (f : GS) (g : GSs) : GSs := fun ss ρ K => match ss with
  | s :: ss => f s ρ (fun ρ1 => g ss ρ1 K)
  | [] => False
/-- a, b, .. = a tuple of n things -/
def gT (n : Nat) (g : GSs) : GS := fun s ρ K => match s with
  | .v (.tup ds) => ds.length = n ∧ g (ds.map .v) ρ K
  | .t ss => ss.length = n ∧ g ss ρ K
  | _ => False
section
variable {X : Cx} {c : Fr} {W : WX} {p p1 p2 : Bool} {M M1 M' M2 : Addr → Prop} {T T' as as1 as2 : List Addr} {σ σ1 : L2.St} {H H1 H' H2 : Hp} {ρ ρ1 ρ' ρ2 : Rho}
theorem SR.put {i : Nat} {v : V} {s : Sl} (q : SR c M (as ++ T) σ H ρ) (r : RepO c.g c.Z M H v s as) (hi : i < ρ.length) (hm : c.mask[i]? ≠ some true) : SR c M T (σ.set i (some v)) H (ρ.set i s) :=
  (Post.put (p := true) (M := M) (T := T) (H := H) ⟨q, fun _ _ h _ => h, fun _ h => .inl h, fun _ => Ext.refl _⟩ r hi hm).sr
theorem SR.frz {v : V} {s : Sl} {d : D} (q : SR c M (as ++ T) σ H ρ) (r : RepO c.g c.Z M H v s as) (e : frSl s = some d) : SR c (fun a => M a ∧ a ∉ as) T σ H ρ ∧ Rep c.g c.Z (fun a => M a ∧ a ∉ as) H v d := by
  obtain ⟨a, b⟩ := Post.frz (p := true) (M := M) (T := T) (H := H) ⟨q, fun _ _ h _ => h, fun _ h => .inl h, fun _ => Ext.refl _⟩ r e
  exact ⟨a.sr, b⟩
theorem gj_name {i : Nat} {fz : Bool} {x : Str} {pos : Pos} (hm : c.mask[i]? ≠ some true) (hN : X.N.Nodup) (hi : X.N[i]? = some x) (hx : L2.Loc X.env.scope x) (hf : X.fn x = true ∨ X.env.scope.names.lookup x = some .local := by first | exact .inl rfl | exact .inr rfl | assumption) : GJ X c (.Name x pos) (gN i fz) := by
  refine ⟨fun s ρ K K' hk h => ?_, PG.imp (L2.pg_name hN hi hx hf) ?_⟩
  · unfold gN at h ⊢
    split at h
    · exact ⟨h.1, hk _ h.2⟩
    · exact h
  · rintro v σ H Q ⟨ρ, M, T, s, as, sr, r, h⟩
    unfold gN at h
    split at h
    · rename_i s' e
      cases fz with
      | false =>
        simp only [Bool.false_eq_true, if_false, Option.some.injEq] at e
        subst e
        exact h.2 _ M (sr.put r h.1 hm) fun _ h => h
      | true =>
        cases e2 : frSl s with
        | none => simp [e2] at e
        | some d =>
          simp only [e2, if_true, Option.map_some, Option.some.injEq] at e
          subst e
          obtain ⟨sr2, r2⟩ := sr.frz r e2
          exact h.2 _ (fun a => M a ∧ a ∉ as) (sr2.put (as := []) (.v r2) h.1 hm) fun _ h => h.1
    · exact h.elim
theorem gjs_nil : GJs X c [] gNil := by
  refine ⟨fun ss ρ K K' hk h => ?_, PGs.imp L2.pgs_nil ?_⟩
  · unfold gNil at h ⊢
    split at h
    · exact hk _ h
    · exact h
  · rintro vs σ H Q ⟨ρ, M, T, ss, as, sr, r, h⟩
    unfold gNil at h
    split at h
    · cases r
      exact ⟨rfl, h σ M sr fun _ h => h⟩
    · exact h.elim
theorem gjs_cons {e : Expr} {es : List Expr} {f : GS} {g : GSs} (h1 : GJ X c e f) (h2 : GJs X c es g) (hs : (assignEach (e :: es) X.env).map (·.2) = assign e X.env :: (assignEach es X.env).map (·.2) := by rfl) : GJs X c (e :: es) (gCons f g) := by
  refine ⟨fun ss ρ K K' hk h => ?_, PGs.imp (L2.pgs_cons h1.run h2.run hs) ?_⟩
  · unfold gCons at h ⊢
    split at h
    · exact h1.mono _ _ _ _ (fun _ h => h2.mono _ _ _ _ hk h) h
    · exact h
  · rintro vs σ H Q ⟨ρ, M, T, ss, as, sr, r, h⟩
    unfold gCons at h
    split at h
    · cases r with
      | cons r rs =>
        rename_i s0 ss0 v as1 vs bs
        have sr' : SR c M (as1 ++ (bs ++ T)) σ H ρ := by rw [← List.append_assoc]; exact sr
        refine ⟨v, vs, rfl, ρ, M, bs ++ T, s0, as1, sr', r, h1.mono _ _ _ _ (fun ρ1 h σ1 M1 q1 hM => ?_) h⟩
        have rs' : RepOs c.g c.Z M1 H vs ss0 bs := rs.re (fun a _ n z => n (hM a z)) fun _ _ _ z => z
        exact ⟨ρ1, M1, T, ss0, bs, q1, rs', h2.mono _ _ _ _ (fun ρ2 h σ2 M2 q2 hM2 => h σ2 M2 q2 fun a z => hM a (hM2 a z)) h⟩
    · exact h.elim
theorem gj_tup {es : List Expr} {k n : Nat} {g : GSs} {pos : Pos} (hK : X.K = c.g.K) (hc : X.calm = true) (h : GJs X c es g) (hn : (assignEach es X.env).length = n := by rfl) (hst : (assignEach es X.env).findIdx? (·.1) = none := by rfl) : GJ X c (.Tuple es k pos) (gT n g) := by
  refine ⟨fun s ρ K K' hk h' => ?_, PG.imp (L2.pg_tup hc h.run hn hst) ?_⟩
  · unfold gT at h' ⊢
    split at h'
    · exact ⟨h'.1, h.mono _ _ _ _ hk h'.2⟩
    · exact ⟨h'.1, h.mono _ _ _ _ hk h'.2⟩
    · exact h'
  · rintro v σ H Q ⟨ρ, M, T, s, as, sr, r, h'⟩
    unfold gT at h'
    split at h'
    · cases r with
      | v r =>
      cases r with
      | tup t r => exact ⟨_, _, rfl, hK ▸ t, r.length.trans h'.1, ρ, M, T, _, [], sr, repOs_v r, h'.2⟩
    · cases r with
      | t t r => exact ⟨_, _, rfl, hK ▸ t, r.length.trans h'.1, ρ, M, T, _, as, sr, r, h'.2⟩
    · exact h'.elim
/-- target = value -/
def asgS (g : GS) (f : ES) : SS := fun ρ k => f ρ (fun x ρ' => match evSl x with
  | some s => g s ρ' k.nx
  | none => False) k.ex
theorem sj_asg {tg e : Expr} {g : GS} {f : ES} {pos : Pos} (he : EJ X c W p e f) (hg : GJ X c tg g) (hs : swapsWithSole [tg] e pos.line X.env = pure false := by rfl) (hw : swappedStores [tg] e X.env = pure none := by rfl) (h1 : (assignEach [tg] X.env).map (·.2) = [assign tg X.env] := by rfl) :
    SJ X c W (.Assign [tg] e pos) (asgS g f) := by
  refine ⟨fun ρ k k' l q => he.mono _ _ _ _ _ (fun x ρ' q => ?_) (fun _ _ => l.2.2.1 _ _) q, PS.imp (L2.ps_asg he.run hg.run hs hw h1) ?_⟩
  · split at q
    · exact hg.mono _ _ _ _ l.1 q
    · exact q
  · rintro D σ H ⟨ρ, M, T, s, k⟩
    refine ⟨ρ, M, T, s, he.mono _ _ _ _ _ (fun x ρ' k v H' M' as q r => ?_) (fun x ρ' k => exc_le x ρ' k) k⟩
    split at k
    · rename_i s' e
      exact ⟨ρ', M', T, s', as, q.sr, r.sl e, hg.mono _ _ _ _ (fun ρ2 k σ2 M2 q2 hM => k σ2 H' M2 ⟨q2, q.keep, fun a z => q.new a (hM a z), fun e => nomatch e⟩) k⟩
    · exact k.elim
/-- a, b = x, y with plain names -/
def parS (i j : Nat) (g : AS) : SS := fun ρ k => g ρ (fun xs ρ' => match xs with
  | [x, y] => (match evSl x, evSl y with
    | some s, some t => i < ρ'.length ∧ j < ρ'.length ∧ k.nx ((ρ'.set i s).set j t)
    | _, _ => False)
  | _ => False) k.ex
theorem sj_par {i j : Nat} {x y : Str} {a b : Expr} {g : AS} {px py pt pos : Pos} {kt k2 pt2} (hmi : c.mask[i]? ≠ some true) (hmj : c.mask[j]? ≠ some true) (hc : X.calm = true) (hN : X.N.Nodup) (hi : X.N[i]? = some x) (hj : X.N[j]? = some y) (hij : i ≠ j)
    (hx : X.env.scope.names.lookup x = some .local) (hy : X.env.scope.names.lookup y = some .local) (ha : AJ X c W p [a, b] g)
    (hw : swappedStores [.Tuple [.Name x px, .Name y py] kt pt] (.Tuple [a, b] k2 pt2) X.env = pure (some [x, y]))
    (hs : swapsWithSole [.Tuple [.Name x px, .Name y py] kt pt] (.Tuple [a, b] k2 pt2) pos.line X.env = pure false := by rfl) : SJ X c W (.Assign [.Tuple [.Name x px, .Name y py] kt pt] (.Tuple [a, b] k2 pt2) pos) (parS i j g) := by
  refine ⟨fun ρ k k' l q => ha.mono _ _ _ _ _ (fun xs ρ' q => ?_) (fun _ _ => l.2.2.1 _ _) q, PS.imp (L2.ps_par hc hN hi hj hij hx hy ha.run hw hs) ?_⟩
  · split at q
    · split at q
      · exact ⟨q.1, q.2.1, l.1 _ q.2.2⟩
      · exact q
    · exact q
  · rintro D σ H ⟨ρ, M, T, s, k⟩
    refine ⟨ρ, M, T, s, ha.mono _ _ _ _ _ (fun xs ρ' k vs H' M' as q r => ?_) (fun x ρ' k => exc_le x ρ' k) k⟩
    split at k
    · obtain ⟨v, u, as1, as2, rfl, r1, r2, rfl⟩ := r.two
      split at k
      · rename_i s1 s2 e1 e2
        have q' := q.weak
        rw [List.append_assoc] at q'
        have hm2 : as1 ++ T = as1 ++ T := rfl
        -- the second value stays on its way while the first one is put
        have qp : Post c false σ M T H M' (as1 ++ (as2 ++ T)) H' ρ' := by
          obtain ⟨Ms, rs, nd, al⟩ := q'.sr.slots
          have pm : (Ms ++ (as1 ++ (as2 ++ T))).Perm (Ms ++ (as2 ++ (as1 ++ T))) := by
            refine List.Perm.append_left _ ?_
            rw [← List.append_assoc, ← List.append_assoc]
            exact List.Perm.append_right _ List.perm_append_comm
          exact ⟨⟨⟨Ms, rs, pm.nodup_iff.mpr nd, fun a ha => al a (pm.mem_iff.mp ha)⟩, q'.sr.ty, q'.sr.src, q'.sr.keep, q'.sr.pin, q'.sr.ln⟩, q'.keep, q'.new, q'.pu⟩
        have w1 := SR.put qp.sr (r1.sl e1) k.1 hmi
        have w2 := SR.put w1 (r2.sl e2) (by rw [List.length_set]; exact k.2.1) hmj
        exact ⟨v, u, rfl, k.2.2 _ H' M' ⟨w2, q'.keep, q'.new, fun e => nomatch e⟩⟩
      · exact k.elim
    · exact k.elim
end
end VS
set_option Elab.async false
set_option linter.all false
set_option maxRecDepth 100000
set_option maxHeartbeats 4000000
/-! VS8: a def keeps its promise; raise; what a call changes of its caller's slots; built-in methods. Own work. -/
namespace VS
open PySem PySem.Spec PyProof.Rows
open L2 (V Hp HO upd SqL SqT Rd Cx TE TT TA TS TG TGs VK XK WX PE PT PA PS PSs PG PGs OpR RelV CallR Sp FnOk atI)
def defK (mask : List Bool) (K : EV → List Sl → Prop) (E : Exc → List Sl → Prop) : SK where
  nx ρ' := retSls (pick mask ρ') = true ∧ K (.v .non) (pick mask ρ')
  rt x ρ' := (retEV x = true ∧ retSls (pick mask ρ') = true) ∧ K x (pick mask ρ')
  ex x ρ' := (retOks x.ds = true ∧ retSls (pick mask ρ') = true) ∧ E x (pick mask ρ')
  bk _ := False
  ct _ := False
/-- a def by its body -/
def defF (mask : List Bool) (m : Nat) (sf : SS) : FS := fun ss K E => ss.length = mask.length ∧ sf (ss ++ List.replicate (m - ss.length) .no) (defK mask K E)
theorem defF_len {mask : List Bool} {m : Nat} {sf : SS} : ∀ ss K E, defF mask m sf ss K E → ss.length = mask.length := fun _ _ _ h => h.1
section
variable {g : Ge} {Z M M' : Addr → Prop} {H H' : Hp}
theorem RepS.pick : ∀ (m : List Bool) {σ : L2.St} {ρ : Rho} {Ms : List Addr}, RepS g Z M H σ ρ Ms → retSls (pick m ρ) = true → ∃ us ias, VS.pick m σ = us.map some ∧ RepOs g Z M H us (VS.pick m ρ) ias ∧ ias.Sublist Ms
  | [], σ, ρ, _, _, _ => ⟨[], [], by cases σ <;> rfl, by cases ρ <;> exact .nil, List.nil_sublist _⟩
  | true :: m, _, _, _, .nil, _ => ⟨[], [], rfl, .nil, List.nil_sublist _⟩
  | false :: m, _, _, _, .nil, _ => ⟨[], [], rfl, .nil, List.nil_sublist _⟩
  | false :: m, _, _, _, .no r, h => by
    obtain ⟨us, ias, h1, h2, h3⟩ := r.pick m h
    exact ⟨us, ias, h1, h2, h3⟩
  | false :: m, _, _, _, .yes q r, h => by
    obtain ⟨us, ias, h1, h2, h3⟩ := r.pick m h
    exact ⟨us, ias, h1, h2, h3.trans (List.sublist_append_right _ _)⟩
  | true :: m, _, _, _, .no (ρ := ρ) r, h => by
    have : (retSl .no && retSls (VS.pick m ρ)) = true := h
    rw [Bool.and_eq_true] at this
    exact absurd this.1 (by simp [retSl])
  | true :: m, _, _, _, .yes (v := v) (s := s) (ρ := ρ) q r, h => by
    have h' : (retSl s && retSls (VS.pick m ρ)) = true := h
    rw [Bool.and_eq_true] at h'
    obtain ⟨us, ias, h1, h2, h3⟩ := r.pick m h'.2
    exact ⟨v :: us, _ ++ ias, by show _ :: VS.pick m _ = _; rw [h1]; rfl, .cons q h2, List.Sublist.append (List.Sublist.refl _) h3⟩
theorem pick_congr {α : Type} : ∀ (m : List Bool) {xs ys : List α}, xs.length = ys.length → (∀ j : Nat, m[j]? = some true → xs[j]? = ys[j]?) → pick m xs = pick m ys
  | [], xs, ys, _, _ => by cases xs <;> cases ys <;> rfl
  | _ :: _, [], [], _, _ => rfl
  | _ :: _, [], _ :: _, h, _ => by simp at h
  | _ :: _, _ :: _, [], h, _ => by simp at h
  | true :: m, x :: xs, y :: ys, hl, h => by
    have e : x = y := by have := h 0 rfl; simpa using this
    subst e
    show x :: pick m xs = x :: pick m ys
    rw [pick_congr m (by simpa using hl) fun j hj => by have := h (j + 1) (by simpa using hj); simpa using this]
  | false :: m, x :: xs, y :: ys, hl, h => pick_congr m (xs := xs) (ys := ys) (by simpa using hl) fun j hj => by have := h (j + 1) (by simpa using hj); simpa using this
theorem pick_map : ∀ (m : List Bool) {vs : List V} {r : List (Option V)}, vs.length = m.length → pick m (vs.map some ++ r) = (pick m vs).map some
  | [], [], r, _ => by cases r <;> rfl
  | [], _ :: _, _, h => by simp at h
  | _ :: _, [], _, h => by simp at h
  | true :: m, v :: vs, r, h => by
    show some v :: pick m (vs.map some ++ r) = some v :: (pick m vs).map some
    rw [pick_map m (by simpa using h)]
  | false :: m, v :: vs, r, h => pick_map m (vs := vs) (by simpa using h)
theorem repS_no : ∀ (n : Nat), RepS g Z M H (List.replicate n none) (List.replicate n .no) []
  | 0 => .nil
  | n + 1 => .no (repS_no n)
theorem repS_start {n : Nat} : ∀ {vs : List V} {ss : List Sl} {as : List Addr}, RepOs g Z M H vs ss as → RepS g Z M H (vs.map some ++ List.replicate n none) (ss ++ List.replicate n .no) as
  | _, _, _, .nil => repS_no n
  | _, _, _, .cons r rs => .yes r (repS_start rs)
theorem map_some_inj : ∀ {xs ys : List V}, xs.map some = ys.map some → xs = ys
  | [], [], _ => rfl
  | [], _ :: _, h => by simp at h
  | _ :: _, [], h => by simp at h
  | x :: xs, y :: ys, h => by
    simp only [List.map_cons, List.cons.injEq, Option.some.injEq] at h
    rw [h.1, map_some_inj h.2]
end
section
variable {P : Program} {w : World} {K : PySem.W.Frag} {mg : Str → Option Value} {base : Heap}
/-- the context of a body -/
abbrev frOf (K : PySem.W.Frag) (mg : Str → Option Value) (mask : List Bool) (Z : Addr → Prop) (H0 : Hp) (io : List Addr) (zd : ∀ a, Z a → H0 a ≠ none) (zi : ∀ a ∈ io, ¬ Z a) (s0 : L2.St) : Fr := ⟨⟨K, mg⟩, Z, H0, io, zd, zi, mask, s0⟩
theorem end_post {c : Fr} {x : EV} {σ' : L2.St} {v : V} {as as' : List Addr} {M' : Addr → Prop} {H H' : Hp} {ρ' : Rho} {vs : List V} {N : List Str} (h0 : c.H0 = H) (hio : c.io = as) (hs : c.s0 = L2.start N vs) (hl : vs.length = c.mask.length) (hN : vs.length ≤ N.length)
    (q : Post c false σ' (fun a => a ∈ as) [] H M' (as' ++ []) H' ρ') (hx : retSls (pick c.mask ρ') = true) :
    ∃ ias, CPost c.g c.Z c.mask vs as H H' (pick c.mask ρ') ias as' ∧ (∀ a ∈ as' ++ ias, M' a) := by
  obtain ⟨Ms, r, nd, al⟩ := q.sr.slots
  obtain ⟨us, ias, h1, h2, h3⟩ := r.pick c.mask hx
  have e : VS.pick c.mask σ' = (VS.pick c.mask vs).map some := by
    rw [pick_congr c.mask (ys := c.s0) ?_ q.sr.pin, hs]
    · exact pick_map c.mask hl
    · exact q.sr.ln
  have eu : us = VS.pick c.mask vs := map_some_inj (h1.symm.trans e)
  subst eu
  have hM : ∀ a ∈ as' ++ ias, M' a := fun a ha => al a (by
    rcases List.mem_append.mp ha with ha | ha
    · exact List.mem_append_right _ (List.mem_append_left _ ha)
    · exact List.mem_append_left _ (h3.subset ha))
  refine ⟨ias, ⟨fun b o eb hb => ?_, h2.back (fun a _ n z k => n (hM a k)) (fun _ _ _ z => z) hx, ?_, fun a ha => ?_, hx⟩, hM⟩
  · exact q.keep b o eb fun z => absurd z hb
  · obtain ⟨n1, n2, n3⟩ := List.nodup_append.mp nd
    exact List.nodup_append.mpr ⟨(List.nodup_append.mp n2).1, n1.sublist h3, fun a ha b hb e => n3 b (h3.subset hb) a (List.mem_append_left _ ha) e.symm⟩
  · exact q.new a (hM a ha)
theorem def_ok {x qual : Str} {st : Stmt} {f : Addr} {fd : FuncData} {N ps : List Str} {k : Nat} {mask : List Bool} {sf : SS} {dvs : List V} {kws : List (Str × V)} (F : L2.FunD K x qual (L2.defArgs st) (L2.defBody st) (L2.defScope st) dvs kws f fd) (S : L2.FnScope N ps (L2.defScope st)) (hml : mask.length = ps.length) (hpl : ps.length ≤ N.length)
    (hbody : ∀ (cdv : Value) (A : Around) (outer : List Env) (s : Shared) (H : Hp) (E : XK) (Z : Addr → Prop) (H0 : Hp) (io : List Addr) (zd : ∀ a, Z a → H0 a ≠ none) (zi : ∀ a ∈ io, ¬ Z a) (s0 : L2.St), L2.Room k (A.deeper (envOfC qual (L2.defScope st) s.heap.objs.size f cdv)) →
      SJs (L2.cxOf (L2.CX P w) P w K mg base N qual (L2.defScope st) f cdv A outer s H E) (frOf K mg mask Z H0 io zd zi s0) (fun cls dd _ H => E cls dd H) (L2.defBody st) sf) :
    FnOk P w K mg base (L2.CX P w) (k + 1) f fd ps (spV ⟨K, mg⟩ mask (defF mask N.length sf)) := by
  have hlv : ∀ vs H Q E, spV ⟨K, mg⟩ mask (defF mask N.length sf) vs H Q E → vs.length = ps.length := fun vs H Q E ⟨Z, ss, as, _, _, r, _, hl, _⟩ => by rw [r.length, hl, hml]
  refine F.ok (CX := L2.CX P w) S hlv fun cdv A outer s H vs Q E hr hsp => ?_
  have hv := hlv vs H Q E hsp
  obtain ⟨Z, ss, as, zd, za, r, nd, hl, _, hF⟩ := hsp
  have J := hbody cdv A outer s H E Z H as zd za (L2.start N vs) hr
  refine ⟨_, J.run, ss ++ List.replicate (N.length - ss.length) .no, fun a => a ∈ as, [], ?_, ?_⟩
  · have e : L2.start N vs = vs.map some ++ List.replicate (N.length - ss.length) none := by unfold L2.start; rw [r.length]
    exact ⟨⟨as, by rw [e]; exact repS_start r, by rw [List.append_nil]; exact nd, fun a h => by simpa using h⟩, fun a h => r.typed a h, fun a h => .inl h, fun b o e _ => e, fun _ _ => rfl, rfl⟩
  · have hlc : vs.length = (frOf K mg mask Z H as zd za (L2.start N vs)).mask.length := by show vs.length = mask.length; omega
    refine J.mono _ (defK mask _ _) _ ⟨fun ρ' h σ' H' M' q => ?_, fun x ρ' h σ' v H' M' as' q rv => ?_, fun x ρ' h σ' cls dd H' M' q rx => ?_, fun _ h => h.elim, fun _ h => h.elim⟩ hF
    · obtain ⟨ias, cp, hM⟩ := end_post (c := frOf K mg mask Z H as zd za (L2.start N vs)) (x := .v .non) (v := .non) (as' := []) (N := N) rfl rfl rfl hlc (by omega) q h.1
      exact h.2 .non H' [] ias cp (.v .non) rfl
    · obtain ⟨ias, cp, hM⟩ := end_post (c := frOf K mg mask Z H as zd za (L2.start N vs)) (x := x) (v := v) (N := N) rfl rfl rfl hlc (by omega) q h.1.2
      exact h.2 v H' as' ias cp (rv.back (fun a _ n _ k => n (hM a k)) (fun _ _ _ z => z) h.1.1) h.1.1
    · obtain ⟨ias, cp, hM⟩ := end_post (c := frOf K mg mask Z H as zd za (L2.start N vs)) (x := .v .non) (v := .non) (as' := []) (N := N) rfl rfl rfl hlc (by omega) q h.1.2
      exact h.2 cls dd H' ias cp (rx.back (fun a _ n _ k => n (hM a (List.mem_append_right _ k))) (fun _ _ _ z => z) h.1.1) h.1.1
end
end VS
set_option Elab.async false
set_option linter.all false
set_option maxRecDepth 100000
set_option maxHeartbeats 4000000
/-! VS9: defs by name, raise, more built-in calls. Own work. -/
namespace VS
open PySem PySem.Spec PyProof.Rows
open L2 (V Hp HO upd SqL SqT Rd Cx TE TT TA TS TG TGs VK XK WX PE PT PA PS PSs PG PGs OpR RelV CallR Sp FnOk atI)
/-- the def that stands under the name x keeps the promise F, within k calls -/
structure Def (P : Program) (w : World) (K : PySem.W.Frag) (mg : Str → Option Value) (base : Heap) (k : Nat) (x : Str) (ps : List Str) (mask : List Bool) (F : FS) : Prop where
  ex : ∃ f fd, FnOk P w K mg base (L2.CX P w) k f fd ps (spV ⟨K, mg⟩ mask F) ∧ mg x = some (.ref f) ∧ PySem.W.keepIn K (.ref f) = true ∧ L2.Binds K fd ps [] ∧ ∃ oc od osl, K.lookup f = some ⟨oc, od, .func fd, osl⟩
  mono : MonoF F
  len : ∀ ss K E, F ss K E → ss.length = mask.length
/-- the text of the def that stands under the name x -/
structure At (K : PySem.W.Frag) (mg : Str → Option Value) (x qual : Str) (st : Stmt) (ps : List Str) : Prop where
  ex : ∃ f fd dvs kws, L2.FunD K x qual (L2.defArgs st) (L2.defBody st) (L2.defScope st) dvs kws f fd ∧ mg x = some (.ref f) ∧ L2.Binds K fd ps []
theorem spV_imp {g : Ge} {mask : List Bool} {F F' : FS} (h : ∀ ss K E, F' ss K E → F ss K E) : ∀ vs H Q E, spV g mask F' vs H Q E → spV g mask F vs H Q E :=
  fun vs H Q E ⟨Z, ss, as, h1, h2, h3, h4, h5, h6⟩ => ⟨Z, ss, as, h1, h2, h3, h4, h5, h _ _ _ h6⟩
section
variable {P : Program} {w : World} {K : PySem.W.Frag} {mg : Str → Option Value} {base : Heap}
theorem Def.imp {k : Nat} {x : Str} {ps : List Str} {mask : List Bool} {F F' : FS} (d : Def P w K mg base k x ps mask F) (hm : MonoF F') (hl : ∀ ss K E, F' ss K E → ss.length = mask.length) (h : ∀ ss K E, F' ss K E → F ss K E) : Def P w K mg base k x ps mask F' := by
  obtain ⟨f, fd, G, h1, h2, h3⟩ := d.ex
  exact ⟨⟨f, fd, G.imp (spV_imp h), h1, h2, h3⟩, hm, hl⟩
/-- .. without what its callers ask besides -/
structure DefR (P : Program) (w : World) (K : PySem.W.Frag) (mg : Str → Option Value) (base : Heap) (k : Nat) (x : Str) (ps : List Str) (mask : List Bool) (F : FS) : Prop where
  ex : ∃ f fd, FnOk P w K mg base (L2.CX P w) k f fd ps (spV ⟨K, mg⟩ mask F) ∧ mg x = some (.ref f) ∧ PySem.W.keepIn K (.ref f) = true ∧ L2.Binds K fd ps [] ∧ ∃ oc od osl, K.lookup f = some ⟨oc, od, .func fd, osl⟩
/-- a nicer promise -/
theorem DefR.def {k : Nat} {x : Str} {ps : List Str} {mask : List Bool} {F F' : FS} (d : DefR P w K mg base k x ps mask F) (hm : MonoF F') (h : ∀ ss K E, F' ss K E → F ss K E) (hl : ∀ ss K E, F ss K E → ss.length = mask.length) : Def P w K mg base k x ps mask F' := by
  obtain ⟨f, fd, G, h1, h2, h3⟩ := d.ex
  exact ⟨⟨f, fd, G.imp (spV_imp h), h1, h2, h3⟩, hm, fun ss K E q => hl ss K E (h ss K E q)⟩
/-- a def by its body -/
theorem DefR.mk' {x qual : Str} {st : Stmt} {N ps : List Str} {k : Nat} {mask : List Bool} {sf : SS} (A : At K mg x qual st ps) (S : L2.FnScope N ps (L2.defScope st)) (hml : mask.length = ps.length) (hpl : ps.length ≤ N.length)
    (hbody : ∀ (f : Addr) (cdv : Value) (A : Around) (outer : List Env) (s : Shared) (H : Hp) (E : XK) (Z : Addr → Prop) (H0 : Hp) (io : List Addr) (zd : ∀ a, Z a → H0 a ≠ none) (zi : ∀ a ∈ io, ¬ Z a) (s0 : L2.St), L2.Room k (A.deeper (envOfC qual (L2.defScope st) s.heap.objs.size f cdv)) →
      SJs (L2.cxOf (L2.CX P w) P w K mg base N qual (L2.defScope st) f cdv A outer s H E) (frOf K mg mask Z H0 io zd zi s0) (fun cls dd _ H => E cls dd H) (L2.defBody st) sf) :
    DefR P w K mg base (k + 1) x ps mask (defF mask N.length sf) := by
  obtain ⟨f, fd, dvs, kws, F, h1, h2⟩ := A.ex
  have lk : ∃ oc od osl, K.lookup f = some ⟨oc, od, .func fd, osl⟩ := by
    obtain ⟨oc, od, dV, kV, doc, pm, an, cdv, ct, osl, rfl, lk, _⟩ := F.ex
    exact ⟨_, _, _, lk⟩
  exact ⟨⟨f, fd, def_ok F S hml hpl (hbody f), h1, F.kp, h2, lk⟩⟩
end
section
variable {X : Cx} {c : Fr} {W : WX} {p p1 p2 : Bool} {M M' M2 : Addr → Prop} {T T' as as1 as2 : List Addr} {σ : L2.St} {H H' H2 : Hp} {ρ ρ' ρ2 : Rho}
/-- f(e, ..) of a def that changes nothing of what it is handed -/
theorem ej_call {mask : List Bool} {F : FS} {j k : Nat} {ps : List Str} {x : Str} {pp pos : Pos} {e : Expr} {es : List Expr} {g : AS} (d : Def X.prog X.w c.g.K c.g.mg X.base j x ps mask F) (hm : ∀ b ∈ mask, b = false)
    (hK : X.K = c.g.K) (hmg : X.mg = c.g.mg) (hr : L2.Room k X.A) (hjk : j ≤ k) (hg : L2.Gl X x) (tk : L2.Takes X W)
    (ha : AJ X c W p (e :: es) g) (hdb : (x == ("__debug__" : Str)) = false := by decide) (he : starEach (e :: es) X.env = (false, eval e X.env) :: starEach es X.env := by rfl) (hpl : (backTo pos (starEach es X.env)).any (·.1) = false := by rfl) :
    EJ X c W p (.Call (.Name x pp) (e :: es) [] pos) (callP F [] g) := by
  obtain ⟨f, fd, G, h1, h2, h3⟩ := d.ex
  have G' : FnOk X.prog X.w X.K X.mg X.base (L2.CX X.prog X.w) j f fd ps (spV c.g mask F) := by rw [hK, hmg]; exact G
  exact ej_callP d.mono d.len hm G' (hr.mono hjk) hg (by rw [hmg]; exact h1) (by rw [hK]; exact h2) (by rw [hK]; exact h3.1) .nil (fun _ _ _ => .nil) tk ha hdb he hpl
/-- raise X('..') of an own class without __init__ -/
def raiseS (cn : Str) : SS := fun ρ k => k.ex ⟨cn, [], []⟩ ρ
/-! abs of an int, max and min of two ints, divmod -/
def absC : CR := fun xs K _ ρ => match xs with
  | [.v (.int i)] => K (.v (.int (if i < 0 then -i else i))) ρ
  | _ => False
theorem absC_mono : MonoC absC := fun xs ρ K K' E E' hk _ h => by
  unfold absC at h ⊢
  split at h
  · exact hk _ _ h
  · exact h
theorem absC_says : SaysC c (fun xs H Q => ∃ i, xs = [.int i] ∧ Q (.int (if i < 0 then -i else i)) H) absC := by
  intro p σ M T H M2 H2 ρ2 as vs xs Q E q r h
  unfold absC at h
  split at h
  · obtain ⟨v, rfl, r1⟩ := r.one
    exact ⟨_, by rw [r1.int], h _ H2 M2 [] q.drop (.v (.int _))⟩
  · exact h.elim
theorem call_divmodV : CallR X (.builtin "divmod") (fun xs H Q => ∃ i j, xs = [.int i, .int j] ∧ DivOk i j ∧ ∀ p, H p = none → Q (.ref p) (upd H p (.tup [.int (i.fdiv j), .int (i.fmod j)]))) := by
  intro pins s σ H xs us Q I r h
  obtain ⟨i, j, rfl, ⟨h1, h2⟩, q⟩ := h
  obtain ⟨u, w', rfl, ⟨t, rfl⟩, ⟨t', rfl⟩⟩ := L2.vals2 r
  refine divmod_int h1 ?_ (.inl (PyProof.noPylong_of_log2 h2))
  have hn : H s.heap.objs.size = none := I.hok.fresh (Nat.le_refl _)
  refine ⟨.ref s.heap.objs.size, _, ?_, rfl, q _ hn⟩
  refine I.laid (fun b o e => Heap.get?_push_of_some _ e) (Nat.le_refl _) ⟨by simp only [List.length_cons, List.length_nil]; rw [sizeLine_eq]; decide, [.int (i.fdiv j) s.toks, .int (i.fmod j) (s.toks + 1)], .cons ⟨_, rfl⟩ (.cons ⟨_, rfl⟩ .nil), ?_⟩
  exact ⟨_, Heap.get?_push_size s.heap rfl, rfl, 0, rfl⟩
def divmodC : CR := fun xs K _ ρ => match xs with
  | [.v (.int i), .v (.int j)] => DivOk i j ∧ K (.v (.tup [.int (i.fdiv j), .int (i.fmod j)])) ρ
  | _ => False
theorem divmodC_mono : MonoC divmodC := fun xs ρ K K' E E' hk _ h => by
  unfold divmodC at h ⊢
  split at h
  · exact ⟨h.1, hk _ _ h.2⟩
  · exact h
theorem divmodC_says : SaysC c (fun xs H Q => ∃ i j, xs = [.int i, .int j] ∧ DivOk i j ∧ ∀ p, H p = none → Q (.ref p) (upd H p (.tup [.int (i.fdiv j), .int (i.fmod j)]))) divmodC := by
  intro p σ M T H M2 H2 ρ2 as vs xs Q E q r h
  unfold divmodC at h
  split at h
  · obtain ⟨v, u, as1, as2, rfl, r1, r2, rfl⟩ := r.two
    refine ⟨_, _, by rw [r1.int, r2.int], h.1, fun pa hp => ?_⟩
    exact h.2 _ _ M2 [] (q.drop.ext (Ext.new hp)) (.v (.tup (.inl (.inl L2.upd_same)) (.cons (.int _) (.cons (.int _) .nil))))
  · exact h.elim
/-- max, min of two ints -/
def mmC (mx : Bool) : CR := fun xs K _ ρ => match xs with
  | [.v (.int i), .v (.int j)] => K (.v (.int (if (if mx then decide (j > i) else decide (j < i)) then j else i))) ρ
  | _ => False
theorem mmC_mono {mx : Bool} : MonoC (mmC mx) := fun xs ρ K K' E E' hk _ h => by
  unfold mmC at h ⊢
  split at h
  · exact hk _ _ h
  · exact h
theorem maxC_says : SaysC c (fun xs H Q => ∃ i j, xs = [.int i, .int j] ∧ Q (.int (if j > i then j else i)) H) (mmC true) := by
  intro p σ M T H M2 H2 ρ2 as vs xs Q E q r h
  unfold mmC at h
  split at h
  · obtain ⟨v, u, as1, as2, rfl, r1, r2, rfl⟩ := r.two
    refine ⟨_, _, by rw [r1.int, r2.int], ?_⟩
    simp only [if_true, decide_eq_true_eq] at h
    exact h _ H2 M2 [] q.drop (.v (.int _))
  · exact h.elim
theorem minC_says : SaysC c (fun xs H Q => ∃ i j, xs = [.int i, .int j] ∧ Q (.int (if j < i then j else i)) H) (mmC false) := by
  intro p σ M T H M2 H2 ρ2 as vs xs Q E q r h
  unfold mmC at h
  split at h
  · obtain ⟨v, u, as1, as2, rfl, r1, r2, rfl⟩ := r.two
    refine ⟨_, _, by rw [r1.int, r2.int], ?_⟩
    simp only [Bool.false_eq_true, if_false, decide_eq_true_eq] at h
    exact h _ H2 M2 [] q.drop (.v (.int _))
  · exact h.elim
end
end VS
namespace VS
open PySem PySem.Spec PyProof.Rows
open L2 (V Hp Cx WX)
theorem u128 {k : Nat} {A : Around} (h : L2.Room k A) : A.units + 128 < cLine := by have := h.un; omega
theorem ej_ty {X : Cx} {c : Fr} {W : WX} {x : Str} {n : String} {pos : Pos} (hg : L2.Gl X x) (hm : X.mg x = none) (hv : bootBuiltins x = some (.type n)) (hn : x ≠ "__name__" := by decide) (hd : (x == ("__debug__" : Str)) = false := by decide) : EJ X c W true (.Name x pos) (cE (.ty n)) :=
  ⟨fun ρ K K' E E' hk _ h => hk _ _ h, PE.imp (L2.pe_bltn (v := .ty n) hg hm hv rfl hn hd) fun σ H Q ⟨ρ, M, T, s, h⟩ => h _ H M [] (Post.same s) (.v (.ty n))⟩
end VS
namespace VS
theorem nm {m : List Bool} {i : Nat} (h : (m[i]? == some true) = false) : m[i]? ≠ some true := fun e => by rw [e] at h; simp at h
end VS
set_option Elab.async false
set_option linter.all false
set_option maxRecDepth 100000
set_option maxHeartbeats 4000000
/-! VS10: what a loop walks; for. Own work. -/
namespace VS
open PySem PySem.Spec PyProof.Rows
open L2 (V Hp HO upd SqL SqT Rd Cx TE TT TA TS TG TGs TI It VK XK WX PE PT PA PS PSs PG PGs PI OpR RelV CallR Sp FnOk atI)
/-- J walks ds from (M, T, H) on, whatever happens to what is owned -/
def IT (c : Fr) (M : Addr → Prop) (T : List Addr) (H : Hp) (J : It) (ds : List D) : Prop := ∀ σ' M' H' ρ', Post c false σ' M T H M' T H' ρ' → ∀ i : Nat,
  (∀ d, ds[i]? = some d → J.go i H' ∧ ∀ x H'', J.yld i H' x H'' → Ext H' H'' ∧ Rep c.g c.Z M' H'' x d) ∧ (ds[i]? = none → J.stop i H')
abbrev IS := Rho → (List D → Rho → Prop) → (Exc → Rho → Prop) → Prop
def MonoI (f : IS) : Prop := ∀ ρ K K' E E', (∀ x ρ', K x ρ' → K' x ρ') → (∀ x ρ', E x ρ' → E' x ρ') → f ρ K E → f ρ K' E'
def rdI (c : Fr) (W : WX) (p : Bool) (f : IS) : TI := fun σ H R => ∃ ρ M T, SR c M T σ H ρ ∧
  f ρ (fun ds ρ' => ∀ J H' M', Post c p σ M T H M' T H' ρ' → IT c M' T H' J ds → R J H')
    (fun x ρ' => ∀ cls dd H' M', Post c false σ M T H M' T H' ρ' → XRep c M' H' cls dd x → W cls dd σ H')
structure IJ (X : Cx) (c : Fr) (W : WX) (p : Bool) (tg e : Expr) (f : IS) : Prop where
  mono : MonoI f
  run : PI X tg e (rdI c W p f)
theorem PI.imp {X : Cx} {tg e : Expr} {t t' : TI} (h : PI X tg e t) (i : ∀ σ H Q, t' σ H Q → t σ H Q) : PI X tg e t' := ⟨fun pins s σ H Q I q => h.run pins s σ H Q I (i σ H Q q)⟩
/-- for -/
def loopS (g : GS) (f : SS) : List D → SS
  | [] => fun ρ k => k.nx ρ
  | d :: ds => fun ρ k => g (.v d) ρ (fun ρ1 => f ρ1 (k.loop fun ρ2 => loopS g f ds ρ2 k))
def forS (it : IS) (g : GS) (f : SS) : SS := fun ρ k => it ρ (fun ds ρ1 => loopS g f ds ρ1 k) k.ex
section
variable {X : Cx} {c : Fr} {W : WX} {p p1 p2 : Bool} {M M1 M' M2 : Addr → Prop} {T T' as as1 as2 : List Addr} {σ σ1 : L2.St} {H H1 H' H2 : Hp} {ρ ρ1 ρ' ρ2 : Rho}
theorem loopS_mono {g : GS} {f : SS} (hg : MonoG g) (hf : MonoS f) : ∀ ds, MonoS (loopS g f ds)
  | [] => fun ρ k k' l h => l.1 _ h
  | d :: ds => fun ρ k k' l h => hg _ _ _ _ (fun ρ1 h => hf _ (k.loop fun ρ2 => loopS g f ds ρ2 k) (k'.loop fun ρ2 => loopS g f ds ρ2 k') ⟨fun ρ2 h => loopS_mono hg hf ds _ _ _ l h, l.2.1, l.2.2.1, l.1, fun ρ2 h => loopS_mono hg hf ds _ _ _ l h⟩ h) h
theorem sj_for {tg iter : Expr} {body : List Stmt} {it : IS} {g : GS} {f : SS} {pos : Pos} (hp : PassesOwn (model X.prog X.w) X.A X.env X.xe) (hc : X.calm = true) (hi : IJ X c W p tg iter it) (hg : GJ X c tg g) (hb : SJs X c W body f)
    (hs : ∀ x, foldedSetIterable iter X.env x = pure x := by intro _; rfl) : SJ X c W (.For tg iter body [] pos) (forS it g f) := by
  refine ⟨fun ρ k k' l q => hi.mono _ _ _ _ _ (fun ds ρ1 q => loopS_mono hg.mono hb.mono ds _ _ _ l q) (fun _ _ => l.2.2.1 _ _) q, PS.imp (L2.ps_for hp hc hi.run hg.run hb.run hs) ?_⟩
  rintro D σ H ⟨ρ, M, T, s, k⟩
  refine ⟨ρ, M, T, s, hi.mono _ _ _ _ _ (fun ds ρ1 k J H1 M1 q1 jt => ?_) (fun x ρ' k => exc_le x ρ' k) k⟩
  refine ⟨fun i m σ2 H2 => ∃ ρ2 M2, Post c false σ2 M1 T H1 M2 T H2 ρ2 ∧ m = ds.length - i ∧ i ≤ ds.length ∧ loopS g f (ds.drop i) ρ2 (skOf c W D M2 T H2), ⟨ds.length, ρ1, M1, Post.refl q1.sr, by simp, Nat.zero_le _, ?_⟩, ?_⟩
  · rw [List.drop_zero]; exact loopS_mono hg.mono hb.mono ds _ _ _ (skOf_after q1) k
  · rintro i m σ2 H2 ⟨ρ2, M2, q2, rfl, hi', k⟩
    obtain ⟨it1, it2⟩ := jt σ2 M2 H2 ρ2 q2 i
    cases e : ds[i]? with
    | none =>
      refine .inl ⟨it2 e, ?_⟩
      have hd : ds.drop i = [] := by rw [List.drop_eq_nil_iff]; exact List.getElem?_eq_none_iff.mp e
      rw [hd] at k
      exact k σ2 H2 M2 (Post.refl q2.sr)
    | some d =>
      obtain ⟨go, yl⟩ := it1 d e
      obtain ⟨hlt, ed⟩ := List.getElem?_eq_some_iff.mp e
      have hd : ds.drop i = d :: ds.drop (i + 1) := by rw [List.drop_eq_getElem_cons hlt, ed]
      rw [hd] at k
      refine .inr ⟨go, fun σ3 H3 => ∃ ρ3 M3, Post c false σ3 M1 T H1 M3 T H3 ρ3 ∧ loopS g f (ds.drop (i + 1)) ρ3 (skOf c W D M3 T H3), fun σ3 H3 ⟨ρ3, M3, q3, k3⟩ => ⟨ds.length - (i + 1), by omega, ρ3, M3, q3, rfl, hlt, k3⟩, fun x H' y => ?_⟩
      obtain ⟨x2, rx⟩ := yl x H' y
      refine ⟨ρ2, M2, T, .v d, [], q2.sr.ext x2, .v rx, hg.mono _ _ _ _ (fun ρ3 k σ3 M3 s3 hM => ?_) k⟩
      have q3 : Post c false σ3 M2 T H2 M3 T H' ρ3 := ⟨s3, fun b o eb _ => x2 b o eb, fun a h => .inl (hM a h), fun e => nomatch e⟩
      refine ⟨ρ3, M3, T, s3, hb.mono _ ((skOf c W D M2 T H2).loop fun ρ4 => loopS g f (ds.drop (i + 1)) ρ4 (skOf c W D M2 T H2)) _ ⟨fun ρ4 k σ4 H4 M4 q4 => ?_, fun x ρ4 k => (skOf_after (W := W) (De := D) q3).2.1 x ρ4 k, fun x ρ4 k => (skOf_after (W := W) (De := D) q3).2.2.1 x ρ4 k, fun ρ4 k => (skOf_after (W := W) (De := D) q3).1 ρ4 k, fun ρ4 k σ4 H4 M4 q4 => ?_⟩ k⟩
      · have q34 := q3.trans q4 fun _ z => z
        exact ⟨ρ4, M4, q2.trans q34 fun _ z => z, loopS_mono hg.mono hb.mono _ _ _ _ (skOf_after q34) k⟩
      · have q34 := q3.trans q4 fun _ z => z
        exact ⟨ρ4, M4, q2.trans q34 fun _ z => z, loopS_mono hg.mono hb.mono _ _ _ _ (skOf_after q34) k⟩
/-! ### lists, tuples -/
theorem IT.list {a : Addr} {st : Bool} {ds : List D} (s : SR c M T σ H ρ) (r : Rep c.g c.Z M H (.ref a) (.lst st ds)) : IT c M T H (L2.Itl c.g.K a) ds := by
  intro σ' M' H' ρ' q i
  have r' := r.moved (q.mv s)
  cases r' with
  | lst l rs =>
    rename_i vs
    refine ⟨fun d e => ?_, fun e => ⟨vs, l.sq, by rw [rs.length]; exact List.getElem?_eq_none_iff.mp e⟩⟩
    obtain ⟨v, h1, h2⟩ := rs.get e
    refine ⟨⟨vs, v, l.sq, h1⟩, fun x H'' y => ?_⟩
    obtain ⟨rfl, y⟩ := y
    have := y vs l.sq
    rw [h1] at this; cases this
    exact ⟨Ext.refl _, h2⟩
theorem IT.tup {a : Addr} {ds : List D} (s : SR c M T σ H ρ) (r : Rep c.g c.Z M H (.ref a) (.tup ds)) : IT c M T H (L2.Itt c.g.K a) ds := by
  intro σ' M' H' ρ' q i
  have r' := r.moved (q.mv s)
  cases r' with
  | tup l rs =>
    rename_i vs
    refine ⟨fun d e => ?_, fun e => ⟨vs, l, by rw [rs.length]; exact List.getElem?_eq_none_iff.mp e⟩⟩
    obtain ⟨v, h1, h2⟩ := rs.get e
    refine ⟨⟨vs, v, l, h1⟩, fun x H'' y => ?_⟩
    obtain ⟨rfl, y⟩ := y
    have := y vs l
    rw [h1] at this; cases this
    exact ⟨Ext.refl _, h2⟩
/-- a list that is looked at no more: its items -/
def stL : EV → Option (List D)
  | .v (.lst _ ds) => some ds
  | .m (.l ds) => some ds
  | _ => none
theorem VRg.stL {v : V} {x : EV} {ds : List D} (q : Post c p σ M T H M' (as ++ T) H' ρ') (r : VR c M' H' v x as) (e : stL x = some ds) : ∃ a st M2, v = .ref a ∧ Post c p σ M T H M2 T H' ρ' ∧ Rep c.g c.Z M2 H' (.ref a) (.lst st ds) := by
  cases r with
  | v r =>
    cases r with
    | lst l r => cases e; exact ⟨_, _, M', rfl, q, .lst l r⟩
    | _ => cases e
  | b _ _ => cases e
  | m r =>
    cases r with
    | l h r =>
      cases e
      obtain ⟨q2, r2⟩ := q.frz (.l h r) rfl
      exact ⟨_, _, _, rfl, q2, r2⟩
    | _ => cases e
def itL (f : ES) : IS := fun ρ K E => f ρ (fun x ρ' => match stL x with
  | some ds => K ds ρ'
  | none => False) E
def itT (f : ES) : IS := fun ρ K E => f ρ (fun x ρ' => match asT x with
  | some ds => K ds ρ'
  | none => False) E
/-! ### ranges -/
def rngD (lo : Int) (n : Nat) : List D := (List.range n).map fun i => .int (lo + (i : Nat))
theorem IT.range {lo : Int} {n : Nat} : IT c M T H (L2.Itr lo n) (rngD lo n) := by
  intro σ' M' H' ρ' q i
  have hl : (rngD lo n).length = n := by unfold rngD; rw [List.length_map, List.length_range]
  refine ⟨fun d e => ?_, fun e => by have := List.getElem?_eq_none_iff.mp e; rw [hl] at this; exact this⟩
  obtain ⟨hi, ed⟩ := List.getElem?_eq_some_iff.mp e
  rw [hl] at hi
  have e2 : (rngD lo n)[i]? = some (.int (lo + (i : Nat))) := by unfold rngD; rw [List.getElem?_map, List.getElem?_range hi]; rfl
  rw [e2] at e; cases e
  refine ⟨hi, fun x H'' y => ?_⟩
  obtain ⟨rfl, rfl⟩ := y
  exact ⟨Ext.refl _, .int _⟩
def itR1 (g : AS) : IS := fun ρ K E => g ρ (fun xs ρ' => match xs with
  | [.v (.int j)] => (-(2 ^ 62) ≤ j ∧ j < 2 ^ 62) ∧ K (rngD 0 j.toNat) ρ'
  | _ => False) E
theorem ij_range1 {tg a : Expr} {g : AS} {pp pos : Pos} (hg : L2.Gl X "range") (hm : X.mg "range" = none) (ha : AJ X c W p [a] g) (hs : starEach [a] X.env = [(false, eval a X.env)] := by rfl) : IJ X c W p tg (.Call (.Name "range" pp) [a] [] pos) (itR1 g) := by
  refine ⟨fun ρ K K' E E' hk he q => ha.mono _ _ _ _ _ (fun xs ρ' q => by
    split at q
    · exact ⟨q.1, hk _ _ q.2⟩
    · exact q) he q, PI.imp (L2.pi_range1 hg hm ha.run hs) ?_⟩
  rintro σ H R ⟨ρ, M, T, s, k⟩
  refine ⟨ρ, M, T, s, ha.mono _ _ _ _ _ (fun xs ρ' k vs H' M' as q r => ?_) (fun _ _ h => h) k⟩
  split at k
  · obtain ⟨v, rfl, r1⟩ := r.one
    exact ⟨_, by rw [r1.int], k.1.1, k.1.2, k.2 _ H' M' q.drop .range⟩
  · exact k.elim
def itR2 (g : AS) : IS := fun ρ K E => g ρ (fun xs ρ' => match xs with
  | [.v (.int i), .v (.int j)] => (-(2 ^ 62) ≤ i ∧ i < 2 ^ 62 ∧ -(2 ^ 62) ≤ j ∧ j < 2 ^ 62) ∧ K (rngD i (j - i).toNat) ρ'
  | _ => False) E
/-! ### enumerate, zip, reversed of lists -/
def numd : Nat → List D → List D
  | _, [] => []
  | i, d :: ds => .tup [.int (i : Nat), d] :: numd (i + 1) ds
theorem numd_get : ∀ (ds : List D) (k i : Nat), (numd k ds)[i]? = (ds[i]?).map fun d => .tup [.int ((k + i : Nat) : Int), d]
  | [], _, _ => by simp [numd]
  | d :: ds, k, 0 => by simp [numd]
  | d :: ds, k, i + 1 => by
    have := numd_get ds (k + 1) i
    have e : k + 1 + i = k + (i + 1) := by omega
    rw [e] at this
    simpa [numd] using this
theorem IT.enum {a : Addr} {st : Bool} {ds : List D} (s : SR c M T σ H ρ) (r : Rep c.g c.Z M H (.ref a) (.lst st ds)) : IT c M T H (L2.Ite c.g.K a) (numd 0 ds) := by
  intro σ' M' H' ρ' q i
  have r' := r.moved (q.mv s)
  cases r' with
  | lst l rs =>
    rename_i vs
    have hg := numd_get ds 0 i
    refine ⟨fun d e => ?_, fun e => ⟨vs, l.sq, ?_⟩⟩
    · cases e2 : ds[i]? with
      | none => rw [hg, e2] at e; cases e
      | some d0 =>
        rw [hg, e2] at e
        simp only [Option.map_some, Option.some.injEq, Nat.zero_add] at e
        obtain ⟨v, h1, h2⟩ := rs.get e2
        refine ⟨⟨vs, v, l.sq, h1⟩, fun x H'' y => ?_⟩
        obtain ⟨T', x', rfl, hT, rfl, y⟩ := y
        have := y vs l.sq
        rw [h1] at this; cases this
        refine ⟨Ext.new hT, ?_⟩
        rw [← e]
        exact .tup (.inl (.inl L2.upd_same)) (.cons (.int _) (.cons (h2.ext (Ext.new hT)) .nil))
    · cases e2 : ds[i]? with
      | none => rw [rs.length]; exact List.getElem?_eq_none_iff.mp e2
      | some d0 => rw [hg, e2] at e; cases e
def itE (g : AS) : IS := fun ρ K E => g ρ (fun xs ρ' => match xs with
  | [x] => (match stL x with
    | some ds => K (numd 0 ds) ρ'
    | none => False)
  | _ => False) E
theorem ij_enum {a : Expr} {g : AS} {pp pos tpos : Pos} {elts : List Expr} {kk : Nat} (hK : X.K = c.g.K) (hg : L2.Gl X "enumerate") (hm : X.mg "enumerate" = none) (ha : AJ X c W p [a] g) (hs : starEach [a] X.env = [(false, eval a X.env)] := by rfl) : IJ X c W p (.Tuple elts kk tpos) (.Call (.Name "enumerate" pp) [a] [] pos) (itE g) := by
  refine ⟨fun ρ K K' E E' hk he q => ha.mono _ _ _ _ _ (fun xs ρ' q => by
    split at q
    · split at q
      · exact hk _ _ q
      · exact q
    · exact q) he q, PI.imp (L2.pi_enum hg hm ha.run hs) ?_⟩
  rintro σ H R ⟨ρ, M, T, s, k⟩
  refine ⟨ρ, M, T, s, ha.mono _ _ _ _ _ (fun xs ρ' k vs H' M' as q r => ?_) (fun _ _ h => h) k⟩
  split at k
  · split at k
    · rename_i ds e
      obtain ⟨v, rfl, r1⟩ := r.one
      obtain ⟨a, st, M2, rfl, q2, r2⟩ := VRg.stL q r1 e
      cases r2 with
      | lst l rs => exact ⟨a, _, rfl, hK ▸ l.sq, by rw [hK]; exact k _ H' M2 q2 (.enum q2.sr (.lst l rs))⟩
    · exact k.elim
  · exact k.elim
def zipd : List D → List D → List D
  | d :: ds, e :: es => .tup [d, e] :: zipd ds es
  | _, _ => []
theorem zipd_get : ∀ (ds es : List D) (i : Nat), (zipd ds es)[i]? = (ds[i]?).bind fun d => (es[i]?).map fun e => .tup [d, e]
  | [], es, i => by simp [zipd]
  | d :: ds, [], i => by simp [zipd]
  | d :: ds, e :: es, 0 => by simp [zipd]
  | d :: ds, e :: es, i + 1 => by simpa [zipd] using zipd_get ds es i
theorem IT.zip {a b : Addr} {st st2 : Bool} {ds es : List D} (s : SR c M T σ H ρ) (r : Rep c.g c.Z M H (.ref a) (.lst st ds)) (r2 : Rep c.g c.Z M H (.ref b) (.lst st2 es)) : IT c M T H (L2.Itz c.g.K a b) (zipd ds es) := by
  intro σ' M' H' ρ' q i
  have r' := r.moved (q.mv s)
  have r2' := r2.moved (q.mv s)
  cases r' with
  | lst l rs =>
    cases r2' with
    | lst l2 rs2 =>
      rename_i vs us
      have hg := zipd_get ds es i
      refine ⟨fun d e => ?_, fun e => ⟨vs, us, l.sq, l2.sq, ?_⟩⟩
      · cases e1 : ds[i]? with
        | none => rw [hg, e1] at e; cases e
        | some d1 =>
          cases e2 : es[i]? with
          | none => rw [hg, e1, e2] at e; cases e
          | some d2 =>
            rw [hg, e1, e2] at e
            simp only [Option.bind_some, Option.map_some, Option.some.injEq] at e
            obtain ⟨v, h1, h2⟩ := rs.get e1
            obtain ⟨u, h3, h4⟩ := rs2.get e2
            refine ⟨⟨vs, us, v, u, l.sq, l2.sq, h1, h3⟩, fun x H'' y => ?_⟩
            obtain ⟨T', x', y', rfl, hT, rfl, y1, y2⟩ := y
            have z1 := y1 vs l.sq
            have z2 := y2 us l2.sq
            rw [h1] at z1; cases z1
            rw [h3] at z2; cases z2
            refine ⟨Ext.new hT, ?_⟩
            rw [← e]
            exact .tup (.inl (.inl L2.upd_same)) (.cons (h2.ext (Ext.new hT)) (.cons (h4.ext (Ext.new hT)) .nil))
      · cases e1 : ds[i]? with
        | none => exact .inl (by rw [rs.length]; exact List.getElem?_eq_none_iff.mp e1)
        | some d1 =>
          cases e2 : es[i]? with
          | none => exact .inr (by rw [rs2.length]; exact List.getElem?_eq_none_iff.mp e2)
          | some d2 => rw [hg, e1, e2] at e; cases e
/-- both lists shared -/
def shL : EV → Option (List D)
  | .v (.lst _ ds) => some ds
  | _ => none
def itZ (g : AS) : IS := fun ρ K E => g ρ (fun xs ρ' => match xs with
  | [x, y] => (match shL x, shL y with
    | some ds, some es => K (zipd ds es) ρ'
    | _, _ => False)
  | _ => False) E
theorem IT.rev {a : Addr} {st : Bool} {ds : List D} {n : Nat} (s : SR c M T σ H ρ) (r : Rep c.g c.Z M H (.ref a) (.lst st ds)) (hn : n = ds.length) : IT c M T H (L2.Itv c.g.K a n) ds.reverse := by
  intro σ' M' H' ρ' q i
  have r' := r.moved (q.mv s)
  cases r' with
  | lst l rs =>
    rename_i vs
    refine ⟨fun d e => ?_, fun e => by have := List.getElem?_eq_none_iff.mp e; rw [List.length_reverse] at this; show n ≤ i; omega⟩
    obtain ⟨hi, _⟩ := List.getElem?_eq_some_iff.mp e
    rw [List.length_reverse] at hi
    rw [List.getElem?_reverse hi] at e
    obtain ⟨v, h1, h2⟩ := rs.get e
    rw [← hn] at h1
    refine ⟨⟨by omega, vs, v, l.sq, h1⟩, fun x H'' y => ?_⟩
    obtain ⟨rfl, y⟩ := y
    have := y vs l.sq
    rw [h1] at this; cases this
    exact ⟨Ext.refl _, h2⟩
def itV (g : AS) : IS := fun ρ K E => g ρ (fun xs ρ' => match xs with
  | [x] => (match stL x with
    | some ds => K ds.reverse ρ'
    | none => False)
  | _ => False) E
end
end VS
set_option Elab.async false
set_option linter.all false
set_option maxRecDepth 100000
set_option maxHeartbeats 4000000
/-! VS11: changes of a list that a slot owns; calls of defs that change what a slot owns. Own work. -/
namespace VS
open PySem PySem.Spec PyProof.Rows
open L2 (V Hp HO upd SqL SqT Rd Cx TE TT TA TS TG TGs TI It VK XK WX PE PT PA PS PSs PG PGs PI OpR RelV CallR Sp FnOk atI MtR)
section
variable {X : Cx} {c : Fr} {W : WX} {p p1 p2 : Bool} {M M1 M' M2 : Addr → Prop} {T T' as as1 as2 : List Addr} {σ σ1 : L2.St} {H H1 H' H2 : Hp} {ρ ρ1 ρ' ρ2 : Rho}
/-- a list that the slot i owns, and what comes of changing it -/
theorem SR.lst {i : Nat} {ds : List D} (s : SR c M T σ H ρ) (e : ρ[i]? = some (.l ds)) : ∃ a vs, σ[i]? = some (some (.ref a)) ∧ H a = some (.lst vs) ∧ Reps c.g c.Z M H vs ds ∧ M a ∧
    ∀ vs' ds', Reps c.g c.Z M H vs' ds' → Post c false σ M T H M T (upd H a (.lst vs')) (ρ.set i (.l ds')) := by
  obtain ⟨Ms, r, nd, al⟩ := s.slots
  obtain ⟨v, as, Ms', h1, h2, h3, h4, h5, h6⟩ := r.out e (by simp)
  obtain ⟨k1, k2, k3⟩ := h6 (List.nodup_append.mp nd).1
  cases h2 with
  | @l a vs _ hH rs =>
  have hMa : M a := al a (List.mem_append_left _ (h4 a (by simp)))
  refine ⟨a, vs, h1, hH, rs, hMa, fun vs' ds' rs' => ?_⟩
  have mv : Moved (fun b => b = a) M M H (upd H a (.lst vs')) := ⟨fun b o eb hb => by rw [L2.upd_ne hb]; exact eb, fun b hb => by rw [hb]; exact .inl ⟨_, hH⟩, fun b hb => by rw [hb]; exact hMa, fun b hb => .inl hb⟩
  have r3 := h3.moved mv fun b hb z => k3 a (by simp) (z ▸ hb)
  obtain ⟨Ms2, r4, m2, n2⟩ := RepS.put (.l (L2.upd_same) (rs'.moved mv)) r3 (i := i) (by rw [List.length_set]; exact (List.getElem?_eq_some_iff.mp e).1)
  rw [List.set_set, set_get h1] at r4
  have hsub : ∀ b ∈ Ms2, b ∈ Ms := fun b hb => by
    rcases m2 b hb with z | z
    · exact h5 b z
    · have : b = a := by simpa using z
      rw [this]; exact h4 a (by simp)
  have ty : ∀ b, M b → Typed (upd H a (.lst vs')) b := fun b hb => by
    by_cases z : b = a
    · rw [z]; exact .inl ⟨_, L2.upd_same⟩
    · rcases s.ty b hb with ⟨_, q⟩ | ⟨_, _, _, q⟩
      · exact .inl ⟨_, by rw [L2.upd_ne z]; exact q⟩
      · exact .inr ⟨_, _, _, by rw [L2.upd_ne z]; exact q⟩
  obtain ⟨n1, n3, n4⟩ := List.nodup_append.mp nd
  have haT : a ∉ T := fun z => n4 a (h4 a (by simp)) a z rfl
  refine ⟨⟨⟨Ms2, r4, List.nodup_append.mpr ⟨n2 k2 (by simp) k3, n3, fun b hb d hd => n4 b (hsub b hb) d hd⟩, fun b hb => ?_⟩, ty, s.src, fun b o eb hb => ?_, s.pin, s.ln⟩, fun b o eb hb => ?_, fun b hb => .inl hb, fun e => nomatch e⟩
  · rcases List.mem_append.mp hb with z | z
    · exact al b (List.mem_append_left _ (hsub b z))
    · exact al b (List.mem_append_right _ z)
  · by_cases z : b = a
    · rcases s.src a hMa with q | q
      · exact absurd (z ▸ q) hb
      · rw [z] at eb; rw [q] at eb; cases eb
    · rw [L2.upd_ne z]; exact s.keep b o eb hb
  · have z : b ≠ a := fun z => haT (z ▸ hb (z ▸ hMa))
    rw [L2.upd_ne z]; exact eb
/-- shared from here on -/
def evD : EV → Option D
  | .v d => some d
  | .m s => frSl s
  | _ => none
theorem VRg.evD {v : V} {x : EV} {d : D} (q : Post c p σ M T H M' (as ++ T') H' ρ') (r : VR c M' H' v x as) (e : evD x = some d) :
    ∃ M2, Post c p σ M T H M2 T' H' ρ' ∧ Rep c.g c.Z M2 H' v d ∧ (∀ a, M2 a → M' a) ∧ ∀ a, M' a → a ∉ as → M2 a := by
  cases r with
  | v r => cases e; exact ⟨M', q, r, fun _ h => h, fun _ h _ => h⟩
  | b _ _ => cases e
  | m r =>
    refine ⟨fun a => M' a ∧ a ∉ as, ?_, ?_, fun a h => h.1, fun a h n => ⟨h, n⟩⟩
    · obtain ⟨Ms, rs, nd, al⟩ := q.sr.slots
      obtain ⟨n1, n2, n3⟩ := List.nodup_append.mp nd
      obtain ⟨m1, m2, m3⟩ := List.nodup_append.mp n2
      refine ⟨⟨⟨Ms, rs.re (fun _ _ n z => n z.1) (fun _ _ _ z => z), List.nodup_append.mpr ⟨n1, m2, fun a ha b hb => n3 a ha b (List.mem_append_right _ hb)⟩, fun a ha => ?_⟩, fun a h => q.sr.ty a h.1, fun a h => q.sr.src a h.1, q.sr.keep, q.sr.pin, q.sr.ln⟩, q.keep, fun a h => q.new a h.1, q.pu⟩
      rcases List.mem_append.mp ha with z | z
      · exact ⟨al a (List.mem_append_left _ z), fun y => n3 a z a (List.mem_append_left _ y) rfl⟩
      · exact ⟨al a (List.mem_append_right _ (List.mem_append_right _ z)), fun y => m3 a y a z rfl⟩
    · refine (r.re (M' := fun a => M' a ∧ a ∉ as) (fun _ _ n z => n z.1) (fun _ _ _ z => z)).freeze e fun a ha => ⟨fun z => z.2 ha, ?_⟩
      obtain ⟨Ms, _, _, al⟩ := q.sr.slots
      exact q.sr.noZ (al a (List.mem_append_right _ (List.mem_append_left _ ha)))
/-! ### methods of a list that a slot owns -/
/-- name.method(..): R tells, of the arguments and the list, what is yielded and what becomes of the list -/
abbrev LR := List EV → List D → (EV → List D → Prop) → Prop
def methL (i : Nat) (R : LR) (g : AS) : ES := fun ρ K E => (∃ ds, ρ[i]? = some (.l ds)) ∧ g ρ (fun xs ρ' => match ρ'[i]? with
  | some (.l ds) => R xs ds (fun x ds' => K x (ρ'.set i (.l ds')))
  | _ => False) E
def MonoL (R : LR) : Prop := ∀ xs ds K K', (∀ x ds', K x ds' → K' x ds') → R xs ds K → R xs ds K'
/-- the reading r does what R says, from a state -/
def SaysL (c : Fr) (r : V → List V → Hp → VK → Prop) (R : LR) : Prop := ∀ σ (M : Addr → Prop) T H M1 as H1 ρ1 i ds vs xs Q, Post c false σ M T H M1 (as ++ T) H1 ρ1 → ρ1[i]? = some (.l ds) → VRs c M1 H1 vs xs as →
  R xs ds (fun x ds' => ∀ v H' M' as', Post c false σ M T H M' (as' ++ T) H' (ρ1.set i (.l ds')) → VR c M' H' v x as' → Q v H') → ∀ a, σ[i]? = some (some (.ref a)) → r (.ref a) vs H1 Q
theorem methL_mono {i : Nat} {R : LR} {g : AS} (hR : MonoL R) (hg : MonoA g) : Mono (methL i R g) := fun ρ K K' E E' hk he q => ⟨q.1, hg _ _ _ _ _ (fun xs ρ' q => by
  split at q
  · exact hR _ _ _ _ (fun _ _ => hk _ _) q
  · exact q) he q.2⟩
theorem ej_methL {id name : String} {i : Nat} {R : LR} {r : V → List V → Hp → VK → Prop} {o e : Expr} {es : List Expr} {g : AS} {apos cpos : Pos} (hK : X.K = c.g.K) (hR : MonoL R) (hS : SaysL c r R) (slot : Slot "list" name id) (hty : typeOf (.builtin id) = pure (.type "method_descriptor")) (hm : MtR X id r) (ho : PE X o (L2.tVar i)) (ha : AJ X c W p (e :: es) g)
    (hbase : attributeBase o name X.env (eval o X.env) = eval o X.env := by rfl)
    (hfew : ((backTo cpos (starEach (e :: es) X.env)).all (fun x => !x.1) && (backToKw cpos (keywordEach [] X.env)).all (fun x => x.1.isSome)
      && decide ((e :: es).length + ([] : List Keyword).length + (if ([] : List Keyword).isEmpty then 0 else 1) < 30)) = true := by rfl)
    (hline : (apos.endLine == cpos.line) = true := by rfl) (hs : starEach (e :: es) X.env = (false, eval e X.env) :: starEach es X.env := by rfl) (hplain : (backTo cpos (starEach es X.env)).any (·.1) = false := by rfl) :
    EJ X c W false (.Call (.Attribute o name apos) (e :: es) [] cpos) (methL i R g) := by
  refine ⟨methL_mono hR ha.mono, PE.imp (L2.pe_bm PySem.F.plainAttrs_list slot hty hm ho ha.run hbase hfew hline hs hplain) ?_⟩
  rintro σ H Q ⟨ρ, M, T, s, ⟨ds0, e0⟩, k⟩
  obtain ⟨a, vs0, hv, hH, _, _, _⟩ := s.lst e0
  refine ⟨.ref a, hv, .inl ⟨rfl, vs0, .inl (.inl hH)⟩, ρ, M, T, s, ha.mono _ _ _ _ _ (fun xs ρ' k vs H' M' as q r => ?_) (fun _ _ h => h) k⟩
  split at k
  · rename_i ds e1
    exact hS σ M T H M' as H' ρ' i ds vs xs Q q.weak e1 r k a hv
  · exact k.elim
theorem Post.then (q1 : Post c false σ M T H M1 T1 H1 ρ1) (q2 : Post c p σ M1 T1 H1 M2 T2 H2 ρ2) (ht : ∀ x ∈ T, x ∈ T1) : Post c false σ M T H M2 T2 H2 ρ2 := (q1.trans q2 ht).weak
def appL : LR := fun xs ds K => match xs with
  | [x] => (match evD x with
    | some d => ds.length < 1000000 ∧ K (.v .non) (ds ++ [d])
    | none => False)
  | _ => False
theorem appL_mono : MonoL appL := fun xs ds K K' hk h => by
  unfold appL at h ⊢
  split at h
  · split at h
    · exact ⟨h.1, hk _ _ h.2⟩
    · exact h
  · exact h
theorem lt_line {n : Nat} (h : n < 1000000) : n < sizeLine := Nat.lt_of_lt_of_le h (by decide)
theorem appL_says : SaysL c L2.rAppend appL := by
  intro σ M T H M1 as H1 ρ1 i ds vs xs Q q e1 r h a hv
  unfold appL at h
  split at h
  · split at h
    · rename_i d ed
      obtain ⟨v, rfl, r1⟩ := r.one
      obtain ⟨M2, q2, r2, _, _⟩ := VRg.evD q r1 ed
      obtain ⟨a', vs', hv', hH, rs, hMa, upd'⟩ := q2.sr.lst e1
      rw [hv] at hv'; cases hv'
      refine ⟨a, vs', v, rfl, rfl, hH, by rw [rs.length]; exact lt_line h.1, ?_⟩
      have q3 := upd' (vs' ++ [v]) (ds ++ [d]) (rs.append (.cons r2 .nil))
      exact h.2 _ _ M2 [] (q2.then q3 fun _ z => z) (.v .non)
    · exact h.elim
  · exact h.elim
/-- name.append(e) -/
theorem ej_append {i : Nat} {o e : Expr} {g : AS} {apos cpos : Pos} (hK : X.K = c.g.K) (ho : PE X o (L2.tVar i)) (ha : AJ X c W p [e] g) (hbase : attributeBase o "append" X.env (eval o X.env) = eval o X.env := by rfl)
    (hfew : ((backTo cpos (starEach [e] X.env)).all (fun x => !x.1) && (backToKw cpos (keywordEach [] X.env)).all (fun x => x.1.isSome) && decide ([e].length + ([] : List Keyword).length + (if ([] : List Keyword).isEmpty then 0 else 1) < 30)) = true := by rfl)
    (hline : (apos.endLine == cpos.line) = true := by rfl) (hs : starEach [e] X.env = (false, eval e X.env) :: starEach [] X.env := by rfl) : EJ X c W false (.Call (.Attribute o "append" apos) [e] [] cpos) (methL i appL g) :=
  ej_methL hK appL_mono appL_says PySem.F.slot_list_append PySem.F.type_list_append L2.mt_append ho ha hbase hfew hline hs rfl
def insL : LR := fun xs ds K => match xs with
  | [.v (.int k), x] => (match evD x with
    | some d => (ds.length < 1000000 ∧ 0 ≤ k ∧ k < 2 ^ 62) ∧ K (.v .non) (ds.take k.toNat ++ [d] ++ ds.drop k.toNat)
    | none => False)
  | _ => False
def clrL : LR := fun xs _ K => match xs with
  | [] => K (.v .non) []
  | _ => False
def popL : LR := fun xs ds K => match xs with
  | [] => (match ds[ds.length - 1]? with
    | some d => K (.v d) ds.dropLast
    | none => False)
  | _ => False
theorem Reps.dropLast {g : Ge} {Z : Addr → Prop} {vs : List V} {ds : List D} (r : Reps g Z M H vs ds) : Reps g Z M H vs.dropLast ds.dropLast := by
  rw [List.dropLast_eq_take, List.dropLast_eq_take, r.length]
  exact r.take _
/-- a list that is tracked: a look at an owned one, or a new one -/
def trL : EV → Option (List D)
  | .b ds => some ds
  | .m (.l ds) => some ds
  | _ => none
def extL : LR := fun xs ds K => match xs with
  | [x] => (match trL x with
    | some es => ds.length + es.length ≤ 1000000 ∧ K (.v .non) (ds ++ es)
    | none => False)
  | _ => False
/-! ### name[i] = value, the list owned by the slot -/
def setixS (p2 : Bool) (i : Nat) (f h : ES) : SS := fun ρ k => f ρ (fun x ρ1 => (∃ ds1, ρ1[i]? = some (.l ds1)) ∧ h ρ1 (fun y ρ2 => match evD x, y, ρ2[i]? with
  | some d, .v (.int n), some (.l ds) => (match L2.ixN ds.length n with
    | some j => okB p2 x ∧ k.nx (ρ2.set i (.l (ds.set j d)))
    | none => False)
  | _, _, _ => False) k.ex) k.ex
theorem sj_setix {i : Nat} {o e ix : Expr} {f h : ES} {pos tpos : Pos} (ho : PE X o (L2.tVar i)) (he : EJ X c W p1 e f) (hi : EJ X c W p2 ix h)
    (ha : ∀ v, assign (.Subscript o ix tpos) X.env v = (do
      let ov ← holding [v] (eval o X.env)
      let iv ← holding [v, ov] (eval ix X.env)
      standAt tpos
      holding [v, ov, iv] (setItem ov iv v)
      release [v, ov, iv] []) := by intro _; rfl)
    (hs : swapsWithSole [.Subscript o ix tpos] e pos.line X.env = pure false := by rfl) (hw : swappedStores [.Subscript o ix tpos] e X.env = pure none := by rfl) (h1 : (assignEach [.Subscript o ix tpos] X.env).map (·.2) = [assign (.Subscript o ix tpos) X.env] := by rfl) :
    SJ X c W (.Assign [.Subscript o ix tpos] e pos) (setixS p2 i f h) := by
  refine ⟨fun ρ k k' l q => he.mono _ _ _ _ _ (fun x ρ1 q => ⟨q.1, hi.mono _ _ _ _ _ (fun y ρ2 q => ?_) (fun _ _ => l.2.2.1 _ _) q.2⟩) (fun _ _ => l.2.2.1 _ _) q, PS.imp (L2.ps_asg he.run (L2.pg_sub ho hi.run L2.set_list ha) hs hw h1) ?_⟩
  · split at q
    · split at q
      · exact ⟨q.1, l.1 _ q.2⟩
      · exact q
    · exact q
  · rintro D σ H ⟨ρ, M, T, s, k⟩
    refine ⟨ρ, M, T, s, he.mono _ _ _ _ _ (fun x ρ1 k v H1 M1 as1 q1 r1 => ?_) (fun x ρ' k => exc_le x ρ' k) k⟩
    obtain ⟨⟨ds1, e1⟩, k⟩ := k
    obtain ⟨a, vs1, hv, _, _, _, _⟩ := q1.sr.lst e1
    refine ⟨.ref a, hv, ρ1, M1, as1 ++ T, q1.sr, hi.mono _ _ _ _ _ (fun y ρ2 k u H2 M2 as2 q2 r2 => ?_) (fun x ρ2 k cls dd H2 M2 q2 r2 => k σ cls dd H2 M2 (q1.trans q2 fun x hx => List.mem_append_right _ hx).weak.drop r2) k⟩
    split at k
    · rename_i d n ds ed e2
      split at k
      · rename_i j ej
        have r1' := r1.next q1.sr q2 (fun b hb => List.mem_append_left _ hb) k.1
        have en : as2 = [] := by cases r2; rfl
        subst en
        have q12 : Post c false σ M T H M2 (as1 ++ T) H2 ρ2 := (q1.trans q2 fun x hx => List.mem_append_right _ hx).weak
        obtain ⟨M3, q3, rd, _, _⟩ := VRg.evD q12 r1' ed
        obtain ⟨a', vs', hv', hH, rs, hMa, upd'⟩ := q3.sr.lst e2
        rw [hv] at hv'; cases hv'
        refine ⟨a, vs', n, j, rfl, r2.int, hH, by rw [rs.length]; exact ej, ?_⟩
        exact k.2 σ _ M3 (q3.then (upd' _ _ (Reps.set rd j rs)) fun _ z => z)
      · exact k.elim
    · exact k.elim
end
end VS
set_option Elab.async false
set_option linter.all false
set_option maxRecDepth 100000
set_option maxHeartbeats 4000000
/-! VS12: calls of defs that change what a slot owns. Own work. -/
namespace VS
open PySem PySem.Spec PyProof.Rows
open L2 (V Hp HO upd SqL SqT Rd Cx TE TT TA TS TG TGs TI It VK XK WX PE PT PA PS PSs PG PGs PI OpR RelV CallR Sp FnOk atI MtR)
/-- arguments of which one is the slot i -/
abbrev AIo := Rho → (List EV → List EV → Rho → Prop) → (Exc → Rho → Prop) → Prop
def MonoAI (f : AIo) : Prop := ∀ ρ K K' E E', (∀ x y ρ', K x y ρ' → K' x y ρ') → (∀ x ρ', E x ρ' → E' x ρ') → f ρ K E → f ρ K' E'
def rdAI (c : Fr) (W : WX) (i : Nat) (f : AIo) : TA := fun σ H Q => ∃ ρ M T, SR c M T σ H ρ ∧
  f ρ (fun xs ys ρ' => ∀ vs us v H' M' as, Post c false σ M T H M' (as ++ T) H' ρ' → VRs c M' H' (vs ++ us) (xs ++ ys) as → vs.length = xs.length → σ[i]? = some (some v) → Q (vs ++ v :: us) H')
    (fun x ρ' => ∀ cls dd H' M', Post c false σ M T H M' T H' ρ' → XRep c M' H' cls dd x → W cls dd σ H')
structure AJI (X : Cx) (c : Fr) (W : WX) (i n : Nat) (es : List Expr) (f : AIo) : Prop where
  mono : MonoAI f
  len : ∀ ρ K E, f ρ K E → f ρ (fun xs ys ρ' => xs.length = n ∧ K xs ys ρ') E
  run : PA X es (rdAI c W i f)
def hereA (i : Nat) (g : AS) : AIo := fun ρ K E => (∃ s, ρ[i]? = some s ∧ s ≠ .no) ∧ g ρ (fun ys ρ' => K [] ys ρ') E
def nextA (f : ES) (g : AIo) : AIo := fun ρ K E => f ρ (fun x ρ1 => g ρ1 (fun xs ys ρ2 => okB false x ∧ K (x :: xs) ys ρ2) E) E
/-- nothing looked at -/
def argS : EV → Option D
  | .v d => some d
  | .m s => frSl s
  | _ => none
def argSs : List EV → Option (List D)
  | [] => some []
  | x :: xs => (argS x).bind fun d => (argSs xs).map (d :: ·)
def callI (F : FS) (i : Nat) (f : AIo) : ES := fun ρ K E => f ρ (fun xs ys ρ1 => match argSs xs, argSs ys, ρ1[i]? with
  | some ds, some es, some s => s ≠ .no ∧ F (ds.map .v ++ s :: es.map .v) (fun x ts => match ts with
      | [t] => K x (ρ1.set i t)
      | _ => False) (fun x ts => match ts with
      | [t] => E x (ρ1.set i t)
      | _ => False)
  | _, _, _ => False) E
section
variable {X : Cx} {c : Fr} {W : WX} {p p1 p2 : Bool} {M M1 M' M2 : Addr → Prop} {T T' as as1 as2 : List Addr} {σ σ1 : L2.St} {H H1 H' H2 : Hp} {ρ ρ1 ρ' ρ2 : Rho}
theorem aji_here {i : Nat} {o : Expr} {es : List Expr} {g : AS} (ho : PE X o (L2.tVar i)) (ha : AJ X c W p es g) (hs : starEach (o :: es) X.env = (false, eval o X.env) :: starEach es X.env := by rfl) : AJI X c W i 0 (o :: es) (hereA i g) := by
  refine ⟨fun ρ K K' E E' hk he q => ⟨q.1, ha.mono _ _ _ _ _ (fun ys ρ' q => hk _ _ _ q) he q.2⟩, fun ρ K E q => ⟨q.1, ha.mono _ _ _ _ _ (fun ys ρ' q => ⟨rfl, q⟩) (fun _ _ h => h) q.2⟩, PA.imp (L2.pa_cons ho ha.run hs) ?_⟩
  rintro σ H Q ⟨ρ, M, T, s, ⟨s0, e0, n0⟩, k⟩
  obtain ⟨v, as, hv, _, _⟩ := s.read e0 n0
  exact ⟨v, hv, ρ, M, T, s, ha.mono _ _ _ _ _ (fun ys ρ' k us H' M' as q r => k [] us v H' M' as q.weak r rfl hv) (fun _ _ h => h) k⟩
theorem VRs.argSs {ex : List Addr} : ∀ {vs : List V} {xs : List EV} {as : List Addr} {ds : List D}, VRs c M H vs xs as → argSs xs = some ds → (∀ a ∈ as, ¬ c.Z a ∧ a ∉ ex) → (∀ a ∈ ex, M a) →
    Reps c.g (fun a => c.Z a ∨ (M a ∧ a ∉ as ∧ a ∉ ex)) (fun a => a ∈ ex) H vs ds
  | _, _, _, _, .nil, e, _, _ => by rw [VS.argSs] at e; cases e; exact .nil
  | _, x :: xs, _, _, .cons (as := as1) (bs := as2) r rs, e, hz, hx => by
    rw [VS.argSs] at e
    cases q : argS x with
    | none => rw [q] at e; cases e
    | some d =>
      cases q2 : VS.argSs xs with
      | none => rw [q, q2] at e; cases e
      | some ds =>
        rw [q, q2] at e; cases e
        have rs' := rs.argSs q2 (fun a h => hz a (List.mem_append_left _ h)) hx
        refine .cons ?_ (rs'.re (fun _ _ z => z) fun a _ _ h k => h ?_)
        · cases r with
          | v r => cases q; exact r.re (fun a _ n z => n (hx a z)) fun a _ n z k => k.elim z fun y => n y.1
          | b l r => cases q
          | m r =>
            have r' : RepO c.g (fun a => c.Z a ∨ (M a ∧ a ∉ as2 ++ as1 ∧ a ∉ ex)) (fun a => a ∈ ex) H _ _ as1 := r.re (fun a _ n z => n (hx a z)) fun a _ n z k => k.elim z fun y => n y.1
            exact r'.freeze q fun a ha => ⟨(hz a (List.mem_append_right _ ha)).2, fun k => k.elim (hz a (List.mem_append_right _ ha)).1 fun y => y.2.1 (List.mem_append_right _ ha)⟩
        · rcases k with k | ⟨k1, k2, k3⟩
          · exact .inl k
          · exact .inr ⟨k1, fun y => k2 (List.mem_append_left _ y), k3⟩
theorem VRs.split : ∀ {vs us : List V} {xs ys : List EV} {as : List Addr}, VRs c M H (vs ++ us) (xs ++ ys) as → vs.length = xs.length → ∃ as1 as2, VRs c M H vs xs as1 ∧ VRs c M H us ys as2 ∧ as = as2 ++ as1
  | [], us, [], ys, as, r, _ => ⟨[], as, .nil, r, by simp⟩
  | [], _, _ :: _, _, _, _, h => by simp at h
  | _ :: _, _, [], _, _, _, h => by simp at h
  | v :: vs, us, x :: xs, ys, _, .cons (as := a1) (bs := bs) r rs, h => by
    obtain ⟨b1, b2, r1, r2, e⟩ := rs.split (by simpa using h)
    exact ⟨b1 ++ a1, b2, .cons r r1, r2, by rw [e, List.append_assoc]⟩
theorem RepOs.mid {g : Ge} {Z : Addr → Prop} {v : V} {s : Sl} {as : List Addr} (r : RepO g Z M H v s as) {us : List V} {es : List D} (re : Reps g Z M H us es) : ∀ {vs : List V} {ds : List D}, Reps g Z M H vs ds → RepOs g Z M H (vs ++ v :: us) (ds.map .v ++ s :: es.map .v) as
  | _, _, .nil => by
    have := RepOs.cons r (repOs_v re)
    rw [List.append_nil] at this; exact this
  | _, _, .cons q qs => RepOs.cons (as := []) (.v q) (RepOs.mid r re qs)
theorem pick_one {α : Type} : ∀ (k m : Nat) {l1 l2 : List α} {x : α}, l1.length = k → pick (List.replicate k false ++ true :: List.replicate m false) (l1 ++ x :: l2) = [x]
  | 0, m, [], l2, x, _ => by
    show x :: pick (List.replicate m false) l2 = [x]
    rw [pick_no fun b hb => List.eq_of_mem_replicate hb]
  | 0, _, _ :: _, _, _, h => by simp at h
  | _ + 1, _, [], _, _, h => by simp at h
  | k + 1, m, y :: l1, l2, x, h => by
    show pick (List.replicate k false ++ true :: List.replicate m false) (l1 ++ x :: l2) = [x]
    exact pick_one k m (by simpa using h)
/-- behind a call that changed what the slot i owns -/
theorem Post.callI {i : Nat} {t : Sl} {v : V} {asI ias ras Ms' : List Addr} (q : Post c p σ M T H M1 (as ++ T) H1 ρ1) (hv : σ[i]? = some (some v)) (hi : i < ρ1.length)
    (Ms : List Addr) (nd : (Ms ++ (as ++ T)).Nodup) (al : ∀ a ∈ Ms ++ (as ++ T), M1 a) (hI : ∀ a ∈ asI, a ∈ Ms) (hMs : ∀ a ∈ Ms', a ∈ Ms) (ndI : asI.Nodup ∧ Ms'.Nodup ∧ ∀ a ∈ asI, a ∉ Ms') (rest : RepS c.g c.Z M1 H1 σ (ρ1.set i .no) Ms')
    (keep : ∀ b o, H1 b = some o → b ∉ asI → H2 b = some o) (n2 : (ras ++ ias).Nodup) (new : ∀ a ∈ ras ++ ias, a ∈ asI ∨ H1 a = none) (ty : ∀ a ∈ ras ++ ias, Typed H2 a)
    (rt : RepO c.g c.Z (fun a => (M1 a ∧ a ∉ as ∧ a ∉ asI) ∨ a ∈ ras ++ ias) H2 v t ias) :
    Post c false σ M T H (fun a => (M1 a ∧ a ∉ as ∧ a ∉ asI) ∨ a ∈ ras ++ ias) (ras ++ T) H2 (ρ1.set i t) := by
  obtain ⟨nd1, nd2, nd3⟩ := List.nodup_append.mp nd
  obtain ⟨nd4, nd5, nd6⟩ := List.nodup_append.mp nd2
  have hIM : ∀ a ∈ asI, M1 a := fun a h => al a (List.mem_append_left _ (hI a h))
  have tyI : ∀ a ∈ asI, Typed H1 a := fun a h => q.sr.ty a (hIM a h)
  have r1 : RepS c.g c.Z (fun a => M1 a ∧ a ∉ as) H1 σ (ρ1.set i .no) Ms' := rest.re (fun _ _ n z => n z.1) fun _ _ _ z => z
  have mv : Moved (fun a => a ∈ asI) (fun a => M1 a ∧ a ∉ as) (fun a => (M1 a ∧ a ∉ as ∧ a ∉ asI) ∨ a ∈ ras ++ ias) H1 H2 := by
    refine ⟨fun b o e h => keep b o e h, tyI, fun a h => ⟨hIM a h, fun z => nd3 a (hI a h) a (List.mem_append_left _ z) rfl⟩, fun a h => ?_⟩
    rcases h with h | h
    · exact .inl ⟨h.1, h.2.1⟩
    · rcases new a h with z | z
      · exact .inl ⟨hIM a z, fun y => nd3 a (hI a z) a (List.mem_append_left _ y) rfl⟩
      · exact .inr z
  have r2 := r1.moved mv fun a h z => ndI.2.2 a z h
  obtain ⟨Ms2, r3, m2, k2⟩ := RepS.put rt r2 (i := i) (by rw [List.length_set]; exact hi)
  rw [List.set_set, set_get hv] at r3
  -- what is new or was owned by the slot
  have dj : ∀ a ∈ ras ++ ias, a ∉ Ms' ∧ a ∉ T := fun a h => by
    rcases new a h with z | z
    · exact ⟨ndI.2.2 a z, fun y => nd3 a (hI a z) a (List.mem_append_right _ y) rfl⟩
    · exact ⟨fun y => (q.sr.ty a (al a (List.mem_append_left _ (hMs a y)))).ne z, fun y => (q.sr.ty a (al a (List.mem_append_right _ (List.mem_append_right _ y)))).ne z⟩
  obtain ⟨n3, n4, n5⟩ := List.nodup_append.mp n2
  have nd7 : Ms2.Nodup := k2 ndI.2.1 n4 fun a h => (dj a (List.mem_append_right _ h)).1
  have hMM : ∀ b o, H1 b = some o → b ∉ asI → H2 b = some o := keep
  refine ⟨⟨⟨Ms2, r3, ?_, fun a h => ?_⟩, fun a h => ?_, fun a h => ?_, fun b o e h => ?_, q.sr.pin, q.sr.ln⟩, fun b o e h => ?_, fun a h => ?_, fun e => nomatch e⟩
  · refine List.nodup_append.mpr ⟨nd7, List.nodup_append.mpr ⟨n3, nd5, fun a h b hb e => (dj a (List.mem_append_left _ h)).2 (e ▸ hb)⟩, fun a h b hb e => ?_⟩
    subst e
    rcases List.mem_append.mp hb with z | z
    · rcases m2 a h with y | y
      · exact (dj a (List.mem_append_left _ z)).1 y
      · exact n5 a z a y rfl
    · rcases m2 a h with y | y
      · exact nd3 a (hMs a y) a (List.mem_append_right _ z) rfl
      · exact (dj a (List.mem_append_right _ y)).2 z
  · rcases List.mem_append.mp h with z | z
    · rcases m2 a z with y | y
      · exact .inl ⟨al a (List.mem_append_left _ (hMs a y)), fun w => nd3 a (hMs a y) a (List.mem_append_left _ w) rfl, fun w => ndI.2.2 a w y⟩
      · exact .inr (List.mem_append_right _ y)
    · rcases List.mem_append.mp z with z | z
      · exact .inr (List.mem_append_left _ z)
      · exact .inl ⟨al a (List.mem_append_right _ (List.mem_append_right _ z)), fun w => nd6 a w a z rfl, fun w => nd3 a (hI a w) a (List.mem_append_right _ z) rfl⟩
  · rcases h with h | h
    · rcases q.sr.ty a h.1 with ⟨_, e⟩ | ⟨_, _, _, e⟩
      · exact .inl ⟨_, keep _ _ e h.2.2⟩
      · exact .inr ⟨_, _, _, keep _ _ e h.2.2⟩
    · exact ty a h
  · rcases h with h | h
    · exact q.sr.src a h.1
    · rcases new a h with z | z
      · exact q.sr.src a (hIM a z)
      · by_cases y : a ∈ c.io
        · exact .inl y
        · refine .inr ?_
          cases e : c.H0 a with
          | none => rfl
          | some u => have := q.sr.keep a u e y; rw [z] at this; cases this
  · refine keep b o (q.sr.keep b o e h) fun z => ?_
    rcases q.sr.src b (hIM b z) with y | y
    · exact h y
    · rw [y] at e; cases e
  · refine keep b o (q.keep b o e h) fun z => ?_
    rcases q.new b (hIM b z) with y | y
    · exact nd3 b (hI b z) b (List.mem_append_right _ (h y)) rfl
    · rw [y] at e; cases e
  · rcases h with h | h
    · exact q.new a h.1
    · rcases new a h with z | z
      · exact q.new a (hIM a z)
      · by_cases y : M a
        · exact .inl y
        · refine .inr ?_
          cases e : H a with
          | none => rfl
          | some u => have := q.keep a u e fun w => absurd w y; rw [z] at this; cases this
theorem callI_run {mask : List Bool} {F : FS} {es : List Expr} {f : AIo} {i kk mm : Nat} (hm : mask = List.replicate kk false ++ true :: List.replicate mm false) (hF : MonoF F) (hl : ∀ ss K E, F ss K E → ss.length = mask.length) (ha : AJI X c W i kk es f) :
    ∀ σ H Q, rdE c W false (callI F i f) σ H Q → rdAI c W i f σ H (fun vs H1 => spV c.g mask F vs H1 Q (L2.WE W σ)) := by
  rintro σ H Q ⟨ρ, M, T, s, h⟩
  refine ⟨ρ, M, T, s, ha.mono _ _ _ _ _ (fun xs ys ρ1 k vs us v H1 M1 as q r hlen hv => ?_) (fun _ _ h => h) (ha.len _ _ _ h)⟩
  obtain ⟨hxk, k⟩ := k
  split at k
  · rename_i ds es' s1 e1 e2 e3
    obtain ⟨sn, k⟩ := k
    obtain ⟨Ms, rS, nd, al⟩ := q.sr.slots
    obtain ⟨v', asI, Ms', h1, h2, h3, h4, h5, h6⟩ := rS.out e3 sn
    rw [hv] at h1; cases h1
    have ndI := h6 (List.nodup_append.mp nd).1
    obtain ⟨nd1, nd2, nd3⟩ := List.nodup_append.mp nd
    have hIM : ∀ a ∈ asI, M1 a := fun a h => al a (List.mem_append_left _ (h4 a h))
    have hz : ∀ a ∈ as, ¬ c.Z a ∧ a ∉ asI := fun a h => ⟨q.sr.noZ (al a (List.mem_append_right _ (List.mem_append_left _ h))), fun z => nd3 a (h4 a z) a (List.mem_append_left _ h) rfl⟩
    obtain ⟨b1, b2, r1, r2, rfl⟩ := r.split hlen
    have d1 := r1.argSs (ex := asI) e1 (fun a h => hz a (List.mem_append_right _ h)) hIM
    have d2 := r2.argSs (ex := asI) e2 (fun a h => hz a (List.mem_append_left _ h)) hIM
    have d1' : Reps c.g (fun a => c.Z a ∨ (M1 a ∧ a ∉ b2 ++ b1 ∧ a ∉ asI)) (fun a => a ∈ asI) H1 vs ds := d1.re (fun _ _ z => z) fun a _ _ n k => n (k.imp id fun y => ⟨y.1, fun w => y.2.1 (List.mem_append_right _ w), y.2.2⟩)
    have d2' : Reps c.g (fun a => c.Z a ∨ (M1 a ∧ a ∉ b2 ++ b1 ∧ a ∉ asI)) (fun a => a ∈ asI) H1 us es' := d2.re (fun _ _ z => z) fun a _ _ n k => n (k.imp id fun y => ⟨y.1, fun w => y.2.1 (List.mem_append_left _ w), y.2.2⟩)
    have ds' : RepO c.g (fun a => c.Z a ∨ (M1 a ∧ a ∉ b2 ++ b1 ∧ a ∉ asI)) (fun a => a ∈ asI) H1 v s1 asI := h2.re (fun a _ n z => n (hIM a z)) fun a _ n z k => k.elim z fun y => n y.1
    have hi : i < ρ1.length := (List.getElem?_eq_some_iff.mp e3).1
    refine ⟨_, _, asI, fun a z => ?_, fun a h k => ?_, RepOs.mid ds' d2' d1', ndI.1, hl _ _ _ k, hF _ _ _ _ _ (fun x ts k w H2 ras ias cp rv re => ?_) (fun x ts k cls dd H2 ias cp rx re => ?_) k⟩
    · rcases z with z | z
      · intro e4
        by_cases y : a ∈ c.io
        · exact c.zi a y z
        · cases e5 : c.H0 a with
          | none => exact c.zd a z e5
          | some o => have := q.sr.keep a o e5 y; rw [e4] at this; cases this
      · exact (q.sr.ty a z.1).ne
    · rcases k with k | k
      · exact q.sr.noZ (hIM a h) k
      · exact k.2.2 h
    · split at k
      · rename_i t
        have io := cp.io
        rw [hm, pick_one kk mm (by rw [hlen]; exact hxk)] at io
        cases io with
        | cons rt rn =>
        cases rn
        rename_i ias
        rw [List.append_nil] at cp rv
        have hret : retSl t = true := by have := cp.ret; simpa [retSls] using this
        have rt' : RepO c.g c.Z (fun a => (M1 a ∧ a ∉ b2 ++ b1 ∧ a ∉ asI) ∨ a ∈ ras ++ ias) H2 v t ias := by
          rw [List.append_nil] at rt
          exact rt.back (fun a _ n z y => y.elim (fun y => z (.inr y)) n) (fun a _ n z y => z (.inl y)) hret
        have ty : ∀ a ∈ ras ++ ias, Typed H2 a := fun a h => by
          rcases List.mem_append.mp h with h | h
          · exact rv.typed a h
          · exact rt'.typed a h
        exact k w H2 _ ras (q.callI hv hi Ms nd al h4 h5 ndI h3 cp.keep cp.nd cp.new ty rt') (rv.back (fun a _ n z y => y.elim (fun y => z (.inr y)) n) (fun a _ n z y => z (.inl y)) re)
      · exact k.elim
    · split at k
      · rename_i t
        have io := cp.io
        rw [hm, pick_one kk mm (by rw [hlen]; exact hxk)] at io
        cases io with
        | cons rt rn =>
        cases rn
        rename_i ias
        rw [List.append_nil] at cp rx
        have hret : retSl t = true := by have := cp.ret; simpa [retSls] using this
        have rt' : RepO c.g c.Z (fun a => (M1 a ∧ a ∉ b2 ++ b1 ∧ a ∉ asI) ∨ a ∈ [] ++ ias) H2 v t ias := by
          rw [List.append_nil] at rt
          exact rt.back (fun a _ n z y => y.elim (fun y => z (.inr y)) n) (fun a _ n z y => z (.inl y)) hret
        exact k cls dd H2 _ (q.callI hv hi Ms nd al h4 h5 ndI h3 cp.keep cp.nd cp.new (fun a h => rt'.typed a (by simpa using h)) rt') (rx.back (fun a _ n z y => y.elim (fun y => z (.inr y)) (fun w => n (by simpa using w))) (fun a _ n z y => z (.inl y)) re)
      · exact k.elim
  · exact k.elim
theorem callI_mono {F : FS} {f : AIo} {i : Nat} (hF : MonoF F) (hf : MonoAI f) : Mono (callI F i f) := fun ρ K K' E E' hk he h => hf _ _ _ _ _ (fun xs ys ρ1 h => by
  split at h
  · refine ⟨h.1, hF _ _ _ _ _ (fun x ts h => ?_) (fun x ts h => ?_) h.2⟩
    · split at h
      · exact hk _ _ h
      · exact h
    · split at h
      · exact he _ _ h
      · exact h
  · exact h) he h
/-- f(.., name, ..) of a def that changes the one thing that is handed as a name -/
theorem ej_callI {mask : List Bool} {F : FS} {i j k kk mm : Nat} {ps : List Str} {x : Str} {pp pos : Pos} {e : Expr} {es : List Expr} {f : AIo} (d : Def X.prog X.w c.g.K c.g.mg X.base j x ps mask F) (hm : mask = List.replicate kk false ++ true :: List.replicate mm false)
    (hK : X.K = c.g.K) (hmg : X.mg = c.g.mg) (hr : L2.Room k X.A) (hjk : j ≤ k) (hg : L2.Gl X x) (tk : L2.Takes X W)
    (ha : AJI X c W i kk (e :: es) f) (hdb : (x == ("__debug__" : Str)) = false := by decide) (he : starEach (e :: es) X.env = (false, eval e X.env) :: starEach es X.env := by rfl) (hpl : (backTo pos (starEach es X.env)).any (·.1) = false := by rfl) :
    EJ X c W false (.Call (.Name x pp) (e :: es) [] pos) (callI F i f) := by
  obtain ⟨g, fd, G, h1, h2, h3⟩ := d.ex
  have G' : FnOk X.prog X.w X.K X.mg X.base (L2.CX X.prog X.w) j g fd ps (spV c.g mask F) := by rw [hK, hmg]; exact G
  exact ⟨callI_mono d.mono ha.mono, PE.imp (L2.pe_callS (E := L2.WE W) G' (hr.mono hjk) hg (by rw [hmg]; exact h1) (by rw [hK]; exact h2) (by rw [hK]; exact h3.1) (fun σ => L2.passAt tk σ) ha.run hdb he hpl) (callI_run hm d.mono d.len ha)⟩
/-! the thing that is changed is new and nobody's -/
/-- the arguments, one of them a new thing that is changed -/
def callN (F : FS) (kk : Nat) (g : AS) : ES := fun ρ K E => g ρ (fun xs ρ1 => match argSs (xs.take kk), xs[kk]?, argSs (xs.drop (kk + 1)) with
  | some ds, some (.m s), some es => F (ds.map .v ++ s :: es.map .v) (fun x ts => match ts with
      | [_] => K x ρ1
      | _ => False) (fun x ts => match ts with
      | [_] => E x ρ1
      | _ => False)
  | _, _, _ => False) E
theorem VRs.take : ∀ (k : Nat) {vs : List V} {xs : List EV} {as : List Addr}, VRs c M H vs xs as → ∃ a1 a2, VRs c M H (vs.take k) (xs.take k) a1 ∧ VRs c M H (vs.drop k) (xs.drop k) a2 ∧ as = a2 ++ a1
  | 0, vs, xs, as, r => ⟨[], as, by rw [List.take_zero, List.take_zero]; exact .nil, r, by simp⟩
  | k + 1, _, _, _, .nil => ⟨[], [], .nil, .nil, rfl⟩
  | k + 1, _, _, _, .cons (as := as) (bs := bs) r rs => by
    obtain ⟨a1, a2, h1, h2, e⟩ := rs.take k
    exact ⟨a1 ++ as, a2, .cons r h1, h2, by rw [e, List.append_assoc]⟩
end
end VS
set_option Elab.async false
set_option linter.all false
set_option maxRecDepth 100000
set_option maxHeartbeats 4000000
/-! VS13: what is walked, list or tuple; constants of the module. Own work. -/
namespace VS
open PySem PySem.Spec PyProof.Rows
open L2 (V Hp HO upd SqL SqT Rd Cx TE TT TA TS TG TGs TI It VK XK WX PE PT PA PS PSs PG PGs PI OpR RelV CallR Sp FnOk atI MtR)
section
variable {X : Cx} {c : Fr} {W : WX} {p p1 p2 : Bool} {M M1 M' M2 : Addr → Prop} {T T' as as1 as2 : List Addr} {σ σ1 : L2.St} {H H1 H' H2 : Hp} {ρ ρ1 ρ' ρ2 : Rho}
theorem pi_seq {tg l : Expr} {tl : TE} (hl : PE X l tl) : PI X tg l (fun σ H R => tl σ H fun x H1 => ∃ a, x = .ref a ∧ (((∃ xs, SqL X.K H1 a xs) ∧ R (L2.Itl X.K a) H1) ∨ ((∃ xs, SqT X.K H1 a xs) ∧ R (L2.Itt X.K a) H1))) := by
  refine ⟨fun pins s σ H R I h => ?_⟩
  refine L2.thn (hl.run pins s σ H _ I h) fun v s1 ⟨x, H1, I1, r1, q1⟩ => ?_
  obtain ⟨a, e, q1⟩ := q1
  subst e
  cases r1
  rcases q1 with ⟨⟨xs, hq⟩, q⟩ | ⟨⟨xs, hq⟩, q⟩
  · obtain ⟨its, rv, p, hz⟩ := I1.list hq
    refine wpAny_pyIter_list p.isList ?_
    refine ⟨s1.heap.objs.size, [s1.heap.objs.size], _, _, H1, rfl, I1.kept (t' := s1.toks) fun b o e => Heap.get?_push_of_some _ e, L2.turn_list a _, ⟨_, Heap.get?_push_size _ rfl, rfl, rfl⟩, fun b hb => ?_, q⟩
    have e : b = s1.heap.objs.size := by simpa using hb
    subst e
    exact I1.fpOk (Nat.le_refl _) (I1.hok.fresh (Nat.le_refl _))
  · obtain ⟨its, rv, p, hz⟩ := I1.tuple hq
    refine wpAny_pyIter_tuple (show s1.heap.IsTuple a its.toArray from p) ?_
    refine ⟨s1.heap.objs.size, [s1.heap.objs.size], _, _, H1, rfl, I1.kept (t' := s1.toks) fun b o e => Heap.get?_push_of_some _ e, L2.turn_tuple a _, ⟨_, Heap.get?_push_size _ rfl, rfl, rfl⟩, fun b hb => ?_, q⟩
    have e : b = s1.heap.objs.size := by simpa using hb
    subst e
    exact I1.fpOk (Nat.le_refl _) (I1.hok.fresh (Nat.le_refl _))
/-- a list that is looked at no more, or a tuple -/
def itS (f : ES) : IS := fun ρ K E => f ρ (fun x ρ' => match asT x with
  | some ds => K ds ρ'
  | none => (match stL x with
    | some ds => K ds ρ'
    | none => False)) E
theorem ij_seq {tg l : Expr} {f : ES} (hK : X.K = c.g.K) (h : EJ X c W p l f) : IJ X c W p tg l (itS f) := by
  refine ⟨fun ρ K K' E E' hk he q => h.mono _ _ _ _ _ (fun x ρ' q => by
    split at q
    · exact hk _ _ q
    · split at q
      · exact hk _ _ q
      · exact q) he q, PI.imp (pi_seq h.run) ?_⟩
  rintro σ H R ⟨ρ, M, T, s, k⟩
  refine ⟨ρ, M, T, s, h.mono _ _ _ _ _ (fun x ρ' k v H' M' as q r => ?_) (fun _ _ h => h) k⟩
  split at k
  · rename_i ds e
    obtain ⟨a, vs, rfl, t, rs⟩ := VR.tuple r e
    refine ⟨a, rfl, .inr ⟨⟨_, hK ▸ t⟩, ?_⟩⟩
    rw [hK]; exact k _ H' M' q.drop (.tup q.drop.sr (.tup t rs))
  · split at k
    · rename_i ds e
      obtain ⟨a, st, M2, rfl, q2, r2⟩ := VRg.stL q r e
      refine ⟨a, rfl, .inl ⟨?_, ?_⟩⟩
      · cases r2 with
        | lst l _ => exact ⟨_, hK ▸ l.sq⟩
      · rw [hK]; exact k _ H' M2 q2 (.list q2.sr r2)
    · exact k.elim
/-- a constant int of the module -/
theorem ej_gi {x : Str} {i : Int} {pos : Pos} (hmg : X.mg = c.g.mg) (hg : L2.Gl X x) (h : ∃ t, c.g.mg x = some (.int i t)) (hd : (x == ("__debug__" : Str)) = false := by decide) : EJ X c W true (.Name x pos) (cE (.int i)) := by
  obtain ⟨t, h⟩ := h
  exact ej_glob (v := .int i) hg (by rw [hmg]; exact h) ⟨t, rfl⟩ (fun _ _ _ => .int i) hd
/-- a constant of the module, any data -/
structure GD (K : PySem.W.Frag) (mg : Str → Option Value) (x : Str) (d : D) : Prop where
  ex : ∃ v u, mg x = some u ∧ RelV v u ∧ ∀ Z M H, Rep ⟨K, mg⟩ Z M H v d
theorem ej_gd {x : Str} {d : D} {pos : Pos} (hK : X.K = c.g.K) (hmg : X.mg = c.g.mg) (hg : L2.Gl X x) (h : GD c.g.K c.g.mg x d) (hd : (x == ("__debug__" : Str)) = false := by decide) : EJ X c W true (.Name x pos) (cE d) := by
  obtain ⟨v, u, h1, h2, h3⟩ := h.ex
  exact ej_glob hg (by rw [hmg]; exact h1) h2 (fun Z M H => h3 Z M H) hd
/-- -n of a written number -/
def negE (f : ES) : ES := fun ρ K E => f ρ (fun x ρ' => match x with
  | .v (.int i) => K (.v (.int (-i))) ρ'
  | _ => False) E
theorem ej_neg {a : Expr} {f : ES} {pos : Pos} (h : EJ X c W p a f) : EJ X c W p (.UnaryOp .USub a pos) (negE f) := by
  refine ⟨fun ρ K K' E E' hk he q => h.mono _ _ _ _ _ (fun x ρ' q => by
    split at q
    · exact hk _ _ q
    · exact q) he q, PE.imp (L2.pe_un L2.un_neg h.run) ?_⟩
  rintro σ H Q ⟨ρ, M, T, s, k⟩
  refine ⟨ρ, M, T, s, h.mono _ _ _ _ _ (fun x ρ' k v H' M' as q r => ?_) (fun _ _ h => h) k⟩
  split at k
  · exact ⟨_, VR.int r, k _ H' M' [] q.drop (.v (.int _))⟩
  · exact k.elim
end
end VS
set_option Elab.async false
set_option linter.all false
set_option maxRecDepth 100000
set_option maxHeartbeats 4000000
/-! VS16: list comprehensions. Own work. -/
namespace VS
open PySem PySem.Spec PyProof.Rows
open L2 (V Hp HO upd SqL SqT Rd Cx TE TT TA TS TG TGs TI It VK XK WX PE PT PTs PA PS PSs PG PGs PI OpR RelV CallR Sp FnOk atI wipe)
def wipeR (ρ : Rho) : List Nat → Rho
  | [] => ρ
  | v :: vs => (wipeR ρ vs).set v .no
/-- [f for g in ds if t], each turn from ρ; it leaves what was there -/
def compD (vs : List Nat) (g : GS) (t : BS) (f : ES) (ρ : Rho) : List D → List D → (List D → Prop) → Prop
  | [], acc, K => K acc
  | d :: ds, acc, K => g (.v d) ρ (fun ρ1 => t ρ1 (fun b ρ2 => if b = true then f ρ2 (fun x ρ3 => wipeR ρ3 vs = ρ ∧ match evD x with
      | some e => compD vs g t f ρ ds (acc ++ [e]) K
      | none => False) (fun _ _ => False) else wipeR ρ2 vs = ρ ∧ compD vs g t f ρ ds acc K) (fun _ _ => False))
def compE (vs : List Nat) (it : IS) (g : GS) (t : BS) (f : ES) : ES := fun ρ K E => it ρ (fun ds ρ1 => ds.length ≤ 1000000 ∧ compD vs g t f (wipeR ρ1 vs) ds [] (fun out => K (.m (.l out)) (wipeR ρ1 vs))) E
def yesT : BS := fun ρ K _ => K true ρ
abbrev W0 : WX := fun _ _ _ _ => False
structure TJs (X : Cx) (c : Fr) (W : WX) (p : Bool) (es : List Expr) (f : BS) : Prop where
  mono : MonoB f
  run : PTs X es (rdT c W p f)
def rdGW (c : Fr) (vs : List Nat) (f : GS) : TG := fun v σ H Q => ∃ ρ M T s as, SR c M (as ++ T) σ H ρ ∧ RepO c.g c.Z M H v s as ∧ f s ρ (fun ρ' => ∀ σ' M', SR c M' T σ' H ρ' → (∀ a, M' a → M a) → wipe σ' vs = wipe σ vs → Q σ' H)
structure GW (X : Cx) (c : Fr) (vs : List Nat) (e : Expr) (f : GS) : Prop where
  mono : MonoG f
  run : PG X e (rdGW c vs f)
def rdGWs (c : Fr) (vs : List Nat) (f : GSs) : TGs := fun us σ H Q => ∃ ρ M T ss as, SR c M (as ++ T) σ H ρ ∧ RepOs c.g c.Z M H us ss as ∧ f ss ρ (fun ρ' => ∀ σ' M', SR c M' T σ' H ρ' → (∀ a, M' a → M a) → wipe σ' vs = wipe σ vs → Q σ' H)
structure GWs (X : Cx) (c : Fr) (vs : List Nat) (es : List Expr) (f : GSs) : Prop where
  mono : MonoGs f
  run : PGs X es (rdGWs c vs f)
theorem wipe_get {σ : L2.St} : ∀ {vs : List Nat} (j : Nat), (wipe σ vs)[j]? = if j ∈ vs then (if j < σ.length then some none else none) else σ[j]?
  | [], j => by simp [wipe]
  | v :: vs, j => by
    unfold wipe
    by_cases e : v = j
    · subst e
      rw [List.getElem?_set]
      simp [L2.wipe_length]
    · rw [List.getElem?_set_ne e, wipe_get j]
      have : (j ∈ v :: vs) = (j ∈ vs) := by simp [Ne.symm e]
      simp only [this]
theorem wipe_set {σ : L2.St} {vs : List Nat} {i : Nat} {x : Option V} (h : i ∈ vs) : wipe (σ.set i x) vs = wipe σ vs := by
  apply List.ext_getElem?
  intro j
  rw [wipe_get, wipe_get]
  by_cases e : j ∈ vs
  · rw [if_pos e, if_pos e, List.length_set]
  · rw [if_neg e, if_neg e, List.getElem?_set_ne (by intro z; subst z; exact e h)]
theorem wipe_wipe {σ : L2.St} {vs : List Nat} : wipe (wipe σ vs) vs = wipe σ vs := by
  apply List.ext_getElem?
  intro j
  rw [wipe_get, wipe_get, L2.wipe_length]
  by_cases e : j ∈ vs
  · rw [if_pos e, if_pos e]
  · rw [if_neg e, if_neg e]
section
variable {g : Ge} {Z M : Addr → Prop} {H : Hp}
theorem RepS.wipe1 : ∀ {σ : L2.St} {ρ : Rho} {Ms : List Addr}, RepS g Z M H σ ρ Ms → ∀ v, ∃ Ms', RepS g Z M H (σ.set v none) (ρ.set v .no) Ms' ∧ Ms'.Sublist Ms
  | _, _, _, .nil, v => ⟨[], .nil, List.Sublist.refl _⟩
  | _, _, _, .no (as := as) r, 0 => ⟨as, .no r, List.Sublist.refl _⟩
  | _, _, _, .no r, v + 1 => by
    obtain ⟨Ms', r', s⟩ := r.wipe1 v
    exact ⟨Ms', .no r', s⟩
  | _, _, _, .yes (bs := bs) q r, 0 => ⟨bs, .no r, List.sublist_append_right _ _⟩
  | _, _, _, .yes q r, v + 1 => by
    obtain ⟨Ms', r', s⟩ := r.wipe1 v
    exact ⟨_ ++ Ms', .yes q r', List.Sublist.append (List.Sublist.refl _) s⟩
theorem RepS.wipe : ∀ (vs : List Nat) {σ : L2.St} {ρ : Rho} {Ms : List Addr}, RepS g Z M H σ ρ Ms → ∃ Ms', RepS g Z M H (L2.wipe σ vs) (wipeR ρ vs) Ms' ∧ Ms'.Sublist Ms
  | [], _, _, Ms, r => ⟨Ms, r, List.Sublist.refl _⟩
  | v :: vs, _, _, _, r => by
    obtain ⟨Ms1, r1, s1⟩ := RepS.wipe vs r
    obtain ⟨Ms2, r2, s2⟩ := r1.wipe1 v
    exact ⟨Ms2, r2, s2.trans s1⟩
theorem RepS.unwipe1 : ∀ {σ : L2.St} (v : Nat) {ρ : Rho} {Ms : List Addr}, RepS g Z M H (σ.set v none) ρ Ms → RepS g Z M H σ ρ Ms
  | [], _, _, _, r => r
  | x :: σ, 0, _, _, r => by
    cases r with
    | no r => exact .no r
  | x :: σ, v + 1, _, _, r => by
    cases r with
    | no r => exact .no (RepS.unwipe1 v r)
    | yes q r => exact .yes q (RepS.unwipe1 v r)
theorem RepS.unwipe : ∀ (vs : List Nat) {σ : L2.St} {ρ : Rho} {Ms : List Addr}, RepS g Z M H (L2.wipe σ vs) ρ Ms → RepS g Z M H σ ρ Ms
  | [], _, _, _, r => r
  | v :: vs, _, _, _, r => RepS.unwipe vs (RepS.unwipe1 v r)
end
section
variable {X : Cx} {c : Fr} {W : WX} {p p1 p2 : Bool} {M M1 M' M2 : Addr → Prop} {T T' as as1 as2 : List Addr} {σ σ1 : L2.St} {H H1 H' H2 : Hp} {ρ ρ1 ρ' ρ2 : Rho}
theorem SR.wipe {vs : List Nat} (hm : ∀ v ∈ vs, c.mask[v]? ≠ some true) (s : SR c M T σ H ρ) : SR c M T (L2.wipe σ vs) H (wipeR ρ vs) := by
  obtain ⟨Ms, r, nd, al⟩ := s.slots
  obtain ⟨Ms', r', sb⟩ := r.wipe vs
  refine ⟨⟨Ms', r', nd.sublist (List.Sublist.append sb (List.Sublist.refl _)), fun a h => al a ?_⟩, s.ty, s.src, s.keep, fun j hj => ?_, by rw [L2.wipe_length]; exact s.ln⟩
  · rcases List.mem_append.mp h with h | h
    · exact List.mem_append_left _ (sb.subset h)
    · exact List.mem_append_right _ h
  · rw [wipe_get, if_neg (fun z => hm j z hj)]
    exact s.pin j hj
theorem SR.unwipe {vs : List Nat} (hm : ∀ v ∈ vs, c.mask[v]? ≠ some true) (s : SR c M T (L2.wipe σ vs) H ρ) : SR c M T σ H ρ := by
  obtain ⟨Ms, r, nd, al⟩ := s.slots
  refine ⟨⟨Ms, r.unwipe vs, nd, al⟩, s.ty, s.src, s.keep, fun j hj => ?_, by rw [← s.ln, L2.wipe_length]⟩
  have := s.pin j hj
  rwa [wipe_get, if_neg (fun z => hm j z hj)] at this
theorem gw_name {i : Nat} {fz : Bool} {vs : List Nat} {x : Str} {pos : Pos} (hv : i ∈ vs) (hm : c.mask[i]? ≠ some true) (hN : X.N.Nodup) (hi : X.N[i]? = some x) (hx : L2.Loc X.env.scope x) (hf : X.fn x = true ∨ X.env.scope.names.lookup x = some .local) : GW X c vs (.Name x pos) (gN i fz) := by
  refine ⟨fun s ρ K K' hk h => ?_, PG.imp (L2.pg_name hN hi hx hf) ?_⟩
  · unfold gN at h ⊢
    split at h
    · exact ⟨h.1, hk _ h.2⟩
    · exact h
  · rintro v σ H Q ⟨ρ, M, T, s, as, sr, r, h⟩
    unfold gN at h
    split at h
    · rename_i s' e
      cases fz with
      | false =>
        simp only [Bool.false_eq_true, if_false, Option.some.injEq] at e
        subst e
        exact h.2 _ M (sr.put r h.1 hm) (fun _ h => h) (wipe_set hv)
      | true =>
        cases e2 : frSl s with
        | none => simp [e2] at e
        | some d =>
          simp only [e2, if_true, Option.map_some, Option.some.injEq] at e
          subst e
          obtain ⟨sr2, r2⟩ := sr.frz r e2
          exact h.2 _ (fun a => M a ∧ a ∉ as) (sr2.put (as := []) (.v r2) h.1 hm) (fun _ h => h.1) (wipe_set hv)
    · exact h.elim
theorem gws_nil {vs : List Nat} : GWs X c vs [] gNil := by
  refine ⟨fun ss ρ K K' hk h => ?_, PGs.imp L2.pgs_nil ?_⟩
  · unfold gNil at h ⊢
    split at h
    · exact hk _ h
    · exact h
  · rintro us σ H Q ⟨ρ, M, T, ss, as, sr, r, h⟩
    unfold gNil at h
    split at h
    · cases r
      exact ⟨rfl, h σ M sr (fun _ h => h) rfl⟩
    · exact h.elim
theorem gws_cons {vs : List Nat} {e : Expr} {es : List Expr} {f : GS} {g : GSs} (h1 : GW X c vs e f) (h2 : GWs X c vs es g) (hs : (assignEach (e :: es) X.env).map (·.2) = assign e X.env :: (assignEach es X.env).map (·.2) := by rfl) : GWs X c vs (e :: es) (gCons f g) := by
  refine ⟨fun ss ρ K K' hk h => ?_, PGs.imp (L2.pgs_cons h1.run h2.run hs) ?_⟩
  · unfold gCons at h ⊢
    split at h
    · exact h1.mono _ _ _ _ (fun _ h => h2.mono _ _ _ _ hk h) h
    · exact h
  · rintro us σ H Q ⟨ρ, M, T, ss, as, sr, r, h⟩
    unfold gCons at h
    split at h
    · cases r with
      | cons r rs =>
        rename_i s0 ss0 v as1 us bs
        have sr' : SR c M (as1 ++ (bs ++ T)) σ H ρ := by rw [← List.append_assoc]; exact sr
        refine ⟨v, us, rfl, ρ, M, bs ++ T, s0, as1, sr', r, h1.mono _ _ _ _ (fun ρ1 h σ1 M1 q1 hM hw => ?_) h⟩
        have rs' : RepOs c.g c.Z M1 H us ss0 bs := rs.re (fun a _ n z => n (hM a z)) fun _ _ _ z => z
        exact ⟨ρ1, M1, T, ss0, bs, q1, rs', h2.mono _ _ _ _ (fun ρ2 h σ2 M2 q2 hM2 hw2 => h σ2 M2 q2 (fun a z => hM a (hM2 a z)) (hw2.trans hw)) h⟩
    · exact h.elim
theorem gw_tup {vs : List Nat} {es : List Expr} {k n : Nat} {g : GSs} {pos : Pos} (hK : X.K = c.g.K) (hc : X.calm = true) (h : GWs X c vs es g) (hn : (assignEach es X.env).length = n := by rfl) (hst : (assignEach es X.env).findIdx? (·.1) = none := by rfl) : GW X c vs (.Tuple es k pos) (gT n g) := by
  refine ⟨fun s ρ K K' hk h' => ?_, PG.imp (L2.pg_tup hc h.run hn hst) ?_⟩
  · unfold gT at h' ⊢
    split at h'
    · exact ⟨h'.1, h.mono _ _ _ _ hk h'.2⟩
    · exact ⟨h'.1, h.mono _ _ _ _ hk h'.2⟩
    · exact h'
  · rintro v σ H Q ⟨ρ, M, T, s, as, sr, r, h'⟩
    unfold gT at h'
    split at h'
    · cases r with
      | v r =>
      cases r with
      | tup t r => exact ⟨_, _, rfl, hK ▸ t, r.length.trans h'.1, ρ, M, T, _, [], sr, repOs_v r, h'.2⟩
    · cases r with
      | t t r => exact ⟨_, _, rfl, hK ▸ t, r.length.trans h'.1, ρ, M, T, _, as, sr, r, h'.2⟩
    · exact h'.elim
theorem tjs_nil : TJs X c W true [] yesT := ⟨fun _ _ _ _ _ hk _ h => hk _ _ h, ⟨fun pins s σ H Q I ⟨ρ, M, T, sr, k⟩ => L2.pts_nil.run pins s σ H Q I (k H M (Post.refl sr))⟩⟩
theorem tjs_one {e : Expr} {t : BS} (h : TJ X c W p e t) : TJs X c W p [e] t := ⟨h.mono, L2.pts_one h.run⟩
theorem compD_mono {vs : List Nat} {g : GS} {t : BS} {f : ES} {ρ : Rho} (hg : MonoG g) (ht : MonoB t) (hf : Mono f) : ∀ (ds acc : List D) (K K' : List D → Prop), (∀ o, K o → K' o) → compD vs g t f ρ ds acc K → compD vs g t f ρ ds acc K'
  | [], acc, K, K', hk, h => hk _ h
  | d :: ds, acc, K, K', hk, h => hg _ _ _ _ (fun ρ1 h => ht _ _ _ _ _ (fun b ρ2 h => by
      split at h
      · rename_i hb; rw [if_pos hb]
        refine hf _ _ _ _ _ (fun x ρ3 h => ⟨h.1, ?_⟩) (fun _ _ h => h) h
        have h2 := h.2
        split at h2
        · exact compD_mono hg ht hf ds _ K K' hk h2
        · exact h2.elim
      · rename_i hb; rw [if_neg hb]
        exact ⟨h.1, compD_mono hg ht hf ds _ K K' hk h.2⟩) (fun _ _ h => h) h) h
theorem SR.appT {D : Addr} {vals vals' : List V} (s : SR c M (D :: T) σ H ρ) (h : H D = some (.lst vals)) : SR c M (D :: T) σ (upd H D (.lst vals')) ρ := by
  obtain ⟨Ms, r, nd, al⟩ := s.slots
  have mD : M D := al D (List.mem_append_right _ List.mem_cons_self)
  have nD : D ∉ Ms := fun z => (List.nodup_append.mp nd).2.2 D z D List.mem_cons_self rfl
  have mv : Moved (fun a => a = D) M M H (upd H D (.lst vals')) := ⟨fun b o e hb => by rw [L2.upd_ne hb]; exact e, fun a z => by subst z; exact .inl ⟨_, h⟩, fun a z => by subst z; exact mD, fun _ z => .inl z⟩
  refine ⟨⟨Ms, r.moved mv (fun a ha z => nD (z ▸ ha)), nd, al⟩, fun a ha => ?_, s.src, fun b o e hb => ?_, s.pin, s.ln⟩
  · by_cases e : a = D
    · subst e; exact .inl ⟨_, L2.upd_same⟩
    · rcases s.ty a ha with ⟨_, z⟩ | ⟨_, _, _, z⟩
      · exact .inl ⟨_, by rw [L2.upd_ne e]; exact z⟩
      · exact .inr ⟨_, _, _, by rw [L2.upd_ne e]; exact z⟩
  · have : b ≠ D := fun z => by
      subst z
      rcases s.src b mD with z | z
      · exact hb z
      · rw [z] at e; cases e
    rw [L2.upd_ne this]
    exact s.keep b o e hb
theorem blk_ok {N N2 : List Str} {sc sc2 scope : Scope} {own : List (Str × Nat)} (hN : N2 = N) (hs : sc2 = sc) (h : L2.blkC N sc scope own = true) : L2.BlkOk N2 sc2 scope own := by
  subst hN hs
  exact L2.blkOk_by h
theorem lc_imp {elt tg iter : Expr} {ifs : List Expr} {scope : Scope} {own : List (Str × Nat)} {pos : Pos} {it : IS} {g : GS} {t : BS} {f : ES} (hc : X.calm = true) (hN : X.N.Nodup) (hm : ∀ v ∈ own.map (·.2), c.mask[v]? ≠ some true) (hi : IJ X c W p tg iter it) (ok : L2.BlkOk X.N X.env.scope scope own)
    (hg : ∀ (s : Shared) (H : Hp) (C : Addr) (cl : List (Str × Addr)) (fp : List Addr), GW (X.blk s H scope (compEnvC scope cl C X.env) fp) c (own.map (·.2)) tg g) (ht : ∀ (s : Shared) (H : Hp) (C : Addr) (cl : List (Str × Addr)) (fp : List Addr), TJs (X.blk s H scope (compEnvC scope cl C X.env) fp) c W0 true ifs t)
    (he : ∀ (s : Shared) (H : Hp) (C : Addr) (cl : List (Str × Addr)) (fp : List Addr), EJ (X.blk s H scope (compEnvC scope cl C X.env) fp) c W0 true elt f) (hs : ∀ x, foldedSetIterable iter X.env x = pure x := by intro _; rfl) :
    Mono (compE (own.map (·.2)) it g t f) ∧ ∀ σ H Q, rdE c W p (compE (own.map (·.2)) it g t f) σ H Q → L2.tLc (rdI c W p it) (rdGW c (own.map (·.2)) g) (rdT c W0 true t) (rdE c W0 true f) (own.map (·.2)) σ H Q := by
  have mg := (hg X.s_0 X.H_0 0 [] []).mono
  have mt := (ht X.s_0 X.H_0 0 [] []).mono
  have mf := (he X.s_0 X.H_0 0 [] []).mono
  refine ⟨fun ρ K K' E E' hk hx h => hi.mono _ _ _ _ _ (fun ds ρ1 q => ⟨q.1, compD_mono mg mt mf _ _ _ _ (fun o => hk _ _) q.2⟩) hx h, ?_⟩
  rintro σ H Q ⟨ρ, M, T, s, k⟩
  refine ⟨ρ, M, T, s, hi.mono _ _ _ _ _ (fun ds ρ1 k J H1 M1 q1 jt D hD => ?_) (fun x ρ' k => k) k⟩
  obtain ⟨hlen, k⟩ := k
  generalize hvs : own.map (·.2) = vs at *
  have q0 := q1.own hD (o := .lst []) (.inl ⟨_, L2.upd_same⟩)
  have e0 : Ext H1 (upd H1 D (.lst [])) := Ext.new hD
  -- the loop's invariant
  refine ⟨fun i m H5 => ∃ (M5 : Addr → Prop) (vals : List V) (acc : List VS.D), m = ds.length - i ∧ i ≤ ds.length ∧ acc.length ≤ i ∧ SR c M5 (D :: T) (wipe σ vs) H5 (wipeR ρ1 vs) ∧ H5 D = some (.lst vals) ∧ Reps c.g c.Z M5 H5 vals acc ∧ (∀ b o, H1 b = some o → H5 b = some o) ∧ (∀ a, M5 a → M1 a ∨ H1 a = none) ∧
      compD vs g t f (wipeR ρ1 vs) (ds.drop i) acc (fun out => ∀ v H' M' as, Post c p σ M T H M' (as ++ T) H' (wipeR ρ1 vs) → VR c M' H' v (.m (.l out)) as → Q v H'), ⟨ds.length, _, [], [], by simp, Nat.zero_le _, Nat.le_refl _, q0.sr.wipe hm, L2.upd_same, .nil, e0, fun a ha => ?_, ?_⟩, ?_⟩
  · rcases ha with z | rfl
    · exact .inl z
    · exact .inr hD
  · rw [List.drop_zero]; exact k
  rintro i m H5 ⟨M5, vals, acc, rfl, hi', hacc, s5, hD5, r5, x5, n5, k5⟩
  have p5 : Post c false (wipe σ vs) M1 T H1 M5 T H5 (wipeR ρ1 vs) := ⟨SR.drop (as := [D]) s5, fun b o e _ => x5 b o e, n5, fun e => nomatch e⟩
  obtain ⟨it1, it2⟩ := jt _ M5 H5 _ p5 i
  cases e : ds[i]? with
  | none =>
    refine .inl ⟨it2 e, ?_⟩
    have hd : ds.drop i = [] := by rw [List.drop_eq_nil_iff]; exact List.getElem?_eq_none_iff.mp e
    rw [hd] at k5
    have pz : Post c true σ M1 T H1 M5 ([D] ++ T) H5 (wipeR ρ1 vs) := ⟨s5.unwipe hm, fun b o e _ => x5 b o e, n5, fun _ => x5⟩
    have pp := q1.trans pz fun _ z => z
    rw [Bool.and_true] at pp
    have hl : vals.length = acc.length := r5.length
    exact k5 (.ref D) H5 M5 [D] pp (.m (.l hD5 r5))
  | some d =>
    obtain ⟨go, yl⟩ := it1 d e
    obtain ⟨hlt, ed⟩ := List.getElem?_eq_some_iff.mp e
    have hd : ds.drop i = d :: ds.drop (i + 1) := by rw [List.drop_eq_getElem_cons hlt, ed]
    rw [hd] at k5
    refine .inr ⟨go, fun H6 => ∃ (M6 : Addr → Prop) (vals : List V) (acc : List VS.D), acc.length ≤ i + 1 ∧ SR c M6 (D :: T) (wipe σ vs) H6 (wipeR ρ1 vs) ∧ H6 D = some (.lst vals) ∧ Reps c.g c.Z M6 H6 vals acc ∧ (∀ b o, H1 b = some o → H6 b = some o) ∧ (∀ a, M6 a → M1 a ∨ H1 a = none) ∧
        compD vs g t f (wipeR ρ1 vs) (ds.drop (i + 1)) acc (fun out => ∀ v H' M' as, Post c p σ M T H M' (as ++ T) H' (wipeR ρ1 vs) → VR c M' H' v (.m (.l out)) as → Q v H'), fun H6 ⟨M6, vals6, acc6, h1, h2, h3, h4, h5, h6, h7⟩ => ⟨ds.length - (i + 1), by omega, M6, vals6, acc6, rfl, hlt, h1, h2, h3, h4, h5, h6, h7⟩, fun x H6 y => ?_⟩
    obtain ⟨x6, rx⟩ := yl x H6 y
    refine ⟨wipeR ρ1 vs, M5, D :: T, .v d, [], s5.ext x6, .v rx, mg _ _ _ _ (fun ρ7 k7 σ7 M7 s7 m7 w7 => ⟨w7.trans wipe_wipe, ρ7, M7, D :: T, s7, mt _ _ _ _ _ (fun b ρ8 k8 H8 M8 q8 => ?_) (fun _ _ z => z.elim) k7⟩) k5⟩
    have w7' : wipe σ7 vs = wipe σ vs := w7.trans wipe_wipe
    have x8 : Ext H6 H8 := q8.pu rfl
    have n8 : ∀ a, M8 a → M1 a ∨ H1 a = none := fun a ha => by
      rcases q8.new a ha with z | z
      · exact n5 a (m7 a z)
      · refine .inr ?_
        cases e : H1 a with
        | none => rfl
        | some o => rw [x6 _ _ (x5 _ _ e)] at z; cases z
    have n8' : ∀ a, M8 a → M5 a ∨ H5 a = none := fun a ha => by
      rcases q8.new a ha with z | z
      · exact .inl (m7 a z)
      · exact .inr (Ext.free x6 z)
    have k8 := k8
    show (if b = true then _ else _)
    split
    · rename_i hb
      rw [if_pos hb] at k8
      refine ⟨ρ8, M8, D :: T, q8.sr, mf _ _ _ _ _ (fun ev ρ9 k9 v H9 M9 as q9 r9 => ?_) (fun _ _ z => z.elim) k8⟩
      obtain ⟨kw, k9⟩ := k9
      split at k9
      · rename_i d9 e9
        obtain ⟨M10, q10, r10, sub, _⟩ := r9.evD q9 e9
        have x9 : Ext H8 H9 := q10.pu rfl
        have xx : Ext H5 H9 := (x6.trans x8).trans x9
        have hD9 : H9 D = some (.lst vals) := xx _ _ hD5
        have s10 := q10.sr.wipe hm
        rw [w7', kw] at s10
        have n10 : ∀ a, M10 a → M5 a ∨ H5 a = none := fun a ha => by
          rcases q10.new a ha with z | z
          · exact n8' a z
          · exact .inr (Ext.free (x6.trans x8) z)
        have mD : M10 D := by
          obtain ⟨_, _, _, al⟩ := q10.sr.slots
          exact al D (List.mem_append_right _ List.mem_cons_self)
        have mD5 : M5 D := by
          obtain ⟨_, _, _, al⟩ := s5.slots
          exact al D (List.mem_append_right _ List.mem_cons_self)
        have mv : Moved (fun a => a = D) M5 M10 H5 (upd H9 D (.lst (vals ++ [v]))) := ⟨fun b o e hb => by rw [L2.upd_ne hb]; exact xx _ _ e, fun a z => by subst z; exact .inl ⟨_, hD5⟩, fun a z => by subst z; exact mD5, n10⟩
        have mv2 : Moved (fun a => a = D) M10 M10 H9 (upd H9 D (.lst (vals ++ [v]))) := ⟨fun b o e hb => by rw [L2.upd_ne hb]; exact e, fun a z => by subst z; exact .inl ⟨_, hD9⟩, fun a z => by subst z; exact mD, fun _ z => .inl z⟩
        have hl : vals.length = acc.length := r5.length
        refine ⟨vals, hD9, lt_line (by omega), M10, vals ++ [v], acc ++ [d9], by simp; omega, s10.appT hD9, L2.upd_same, (r5.moved mv).append (.cons (r10.moved mv2) .nil), fun b o e => ?_, fun a ha => ?_, k9⟩
        · have : b ≠ D := fun z => by subst z; rw [hD] at e; cases e
          rw [L2.upd_ne this]
          exact xx _ _ (x5 _ _ e)
        · rcases n10 a ha with z | z
          · exact n5 a z
          · refine .inr ?_
            cases e : H1 a with
            | none => rfl
            | some o => rw [x5 _ _ e] at z; cases z
      · exact k9.elim
    · rename_i hb
      rw [if_neg hb] at k8
      obtain ⟨kw, k8⟩ := k8
      have s8 := q8.sr.wipe hm
      rw [w7', kw] at s8
      have mv : Moved (fun _ => False) M5 M8 H5 H8 := ⟨fun b o e _ => x8 _ _ (x6 _ _ e), fun _ z => z.elim, fun _ z => z.elim, n8'⟩
      exact ⟨M8, vals, acc, by omega, s8, x8 _ _ (x6 _ _ hD5), r5.moved mv, fun b o e => x8 _ _ (x6 _ _ (x5 _ _ e)), n8, k8⟩
theorem ej_lc {elt tg iter : Expr} {ifs : List Expr} {scope : Scope} {own : List (Str × Nat)} {pos : Pos} {it : IS} {g : GS} {t : BS} {f : ES} (hc : X.calm = true) (hN : X.N.Nodup) (hm : ∀ v ∈ own.map (·.2), c.mask[v]? ≠ some true) (hi : IJ X c W p tg iter it) (ok : L2.BlkOk X.N X.env.scope scope own)
    (hg : ∀ (s : Shared) (H : Hp) (C : Addr) (cl : List (Str × Addr)) (fp : List Addr), GW (X.blk s H scope (compEnvC scope cl C X.env) fp) c (own.map (·.2)) tg g) (ht : ∀ (s : Shared) (H : Hp) (C : Addr) (cl : List (Str × Addr)) (fp : List Addr), TJs (X.blk s H scope (compEnvC scope cl C X.env) fp) c W0 true ifs t)
    (he : ∀ (s : Shared) (H : Hp) (C : Addr) (cl : List (Str × Addr)) (fp : List Addr), EJ (X.blk s H scope (compEnvC scope cl C X.env) fp) c W0 true elt f) (hs : ∀ x, foldedSetIterable iter X.env x = pure x := by intro _; rfl) :
    EJ X c W p (.ListComp elt [⟨tg, iter, ifs, 0⟩] scope pos) (compE (own.map (·.2)) it g t f) :=
  have h := lc_imp (pos := pos) hc hN hm hi ok hg ht he hs
  ⟨h.1, PE.imp (L2.pe_lc hc hN hi.run ok (fun s H C cl fp => (hg s H C cl fp).run) (fun s H C cl fp => (ht s H C cl fp).run) (fun s H C cl fp => (he s H C cl fp).run) hs) h.2⟩
/-- y = [..] on one line, y a local -/
theorem sj_setlc {i : Nat} {fz : Bool} {y : Str} {py spos : Pos} {elt tg iter : Expr} {ifs : List Expr} {scope : Scope} {own : List (Str × Nat)} {pos : Pos} {it : IS} {g : GS} {t : BS} {f : ES} (hmi : c.mask[i]? ≠ some true) (hy : X.N[i]? = some y) (hyk : X.env.scope.kind = .function) (hyl : X.env.scope.names.lookup y = some .local) (hc : X.calm = true) (hN : X.N.Nodup) (hm : ∀ v ∈ own.map (·.2), c.mask[v]? ≠ some true) (hi : IJ X c W p tg iter it) (ok : L2.BlkOk X.N X.env.scope scope own)
    (hg : ∀ (s : Shared) (H : Hp) (C : Addr) (cl : List (Str × Addr)) (fp : List Addr), GW (X.blk s H scope (compEnvC scope cl C X.env) fp) c (own.map (·.2)) tg g) (ht : ∀ (s : Shared) (H : Hp) (C : Addr) (cl : List (Str × Addr)) (fp : List Addr), TJs (X.blk s H scope (compEnvC scope cl C X.env) fp) c W0 true ifs t)
    (he : ∀ (s : Shared) (H : Hp) (C : Addr) (cl : List (Str × Addr)) (fp : List Addr), EJ (X.blk s H scope (compEnvC scope cl C X.env) fp) c W0 true elt f) (hs : ∀ x, foldedSetIterable iter X.env x = pure x := by intro _; rfl) (hpl : (py.line == pos.line) = true := by rfl) (hya : (scope.names.any fun (n, k) => n == y && (k == .local || k == .cell)) = false := by decide +kernel) :
    SJ X c W (.Assign [.Name y py] (.ListComp elt [⟨tg, iter, ifs, 0⟩] scope pos) spos) (setS i fz (compE (own.map (·.2)) it g t f)) :=
  have h := lc_imp (pos := pos) hc hN hm hi ok hg ht he hs
  ⟨setS_mono h.1, PS.imp (L2.ps_setLc hc hN hy hyl (L2.sw_true hyk hyl hpl hya) hi.run ok (fun s H C cl fp => (hg s H C cl fp).run) (fun s H C cl fp => (ht s H C cl fp).run) (fun s H C cl fp => (he s H C cl fp).run) hs) fun D σ H q => h.2 _ _ _ (setS_run h.1 hmi D σ H q)⟩
end
end VS
set_option Elab.async false
set_option linter.all false
set_option maxRecDepth 100000
set_option maxHeartbeats 4000000
/-! VS17: list(..), tuple(..). Own work. -/
namespace VS
open PySem PySem.Spec PyProof.Rows
open L2 (V Hp HO upd SqL SqT Rd Cx TE TT TA TS TG TGs VK XK WX PE PT PA PS PSs PG PGs OpR RelV CallR Sp FnOk atI)
section
variable {X : Cx} {c : Fr} {W : WX} {p p1 p2 : Bool} {M M' M2 : Addr → Prop} {T T' as as1 as2 : List Addr} {σ : L2.St} {H H' H2 : Hp} {ρ ρ' ρ2 : Rho}
def seqD (x : EV) : Option (List D) := match asL x with
  | some ds => some ds
  | none => asT x
def listC : CR := fun xs K _ ρ => match xs with
  | [x] => (match seqD x with
    | some ds => K (.m (.l ds)) ρ
    | none => False)
  | _ => False
theorem VR.seq {v : V} {x : EV} {ds : List D} (r : VR c M H v x as) (e : seqD x = some ds) : ∃ a vs, v = .ref a ∧ (SqL c.g.K H a vs ∨ SqT c.g.K H a vs) ∧ Reps c.g c.Z M H vs ds := by
  unfold seqD at e
  split at e
  · rename_i ds' e1
    cases e
    obtain ⟨a, vs, h1, h2, h3⟩ := r.list e1
    exact ⟨a, vs, h1, .inl h2, h3⟩
  · obtain ⟨a, vs, h1, h2, h3⟩ := r.tuple e
    exact ⟨a, vs, h1, .inr h2, h3⟩
/-- tuple(a list) -/
def tupC : CR := fun xs K _ ρ => match xs with
  | [x] => (match asL x with
    | some ds => K (.v (.tup ds)) ρ
    | none => (match asT x with
      | some ds => K (.v (.tup ds)) ρ
      | none => False))
  | _ => False
end
end VS
namespace VS
open PySem PySem.Spec PyProof.Rows
open L2 (V Hp HO Cx WX PE)
/-- a name that holds shared data, or an owned list to look at -/
def rE (i : Nat) : ES := fun ρ K _ => match ρ[i]? with
  | some (.v d) => K (.v d) ρ
  | some (.l ds) => K (.b ds) ρ
  | _ => False
theorem ej_r {X : Cx} {c : Fr} {W : WX} {i : Nat} {e : Expr} (h : PE X e (L2.tVar i)) : EJ X c W true e (rE i) := by
  refine ⟨fun ρ K K' E E' hk he q => ?_, PE.imp h ?_⟩
  · unfold rE at q ⊢
    split at q
    · exact hk _ _ q
    · exact hk _ _ q
    · exact q
  · rintro σ H Q ⟨ρ, M, T, s, k⟩
    unfold rE at k
    split at k
    · rename_i d e
      obtain ⟨v, as, h1, h2, _⟩ := s.read e (by simp)
      cases h2 with
      | v r => exact ⟨v, h1, k v H M [] (Post.same s) (.v r)⟩
    · rename_i d e
      obtain ⟨v, as, h1, h2, _⟩ := s.read e (by simp)
      cases h2 with
      | l e r => exact ⟨_, h1, k _ H M [] (Post.same s) (.b e r)⟩
    · exact k.elim
end VS
set_option Elab.async false
set_option linter.all false
set_option maxRecDepth 100000
set_option maxHeartbeats 4000000
/-! VS18: try, except. Own work. -/
namespace VS
open PySem PySem.Spec PyProof.Rows
open L2 (V Hp HO upd SqL SqT Rd Cx TE TT TA TS TG TGs VK XK WX PE PT PA PS PSs PG PGs OpR RelV CallR Sp FnOk atI)
/-! ### the frame of a suite: a run of its own from what is there -/
def maskAt (m : List Bool) (i : Nat) : List Bool := (m ++ List.replicate (i + 1 - m.length) false).set i true
theorem maskAt_self {m : List Bool} {i : Nat} : (maskAt m i)[i]? = some true := by
  unfold maskAt
  rw [List.getElem?_set_self]
  simp only [List.length_append, List.length_replicate]
  omega
theorem maskAt_of {m : List Bool} {i j : Nat} (h : m[j]? = some true) : (maskAt m i)[j]? = some true := by
  unfold maskAt
  by_cases e : i = j
  · subst e; exact maskAt_self
  · rw [List.getElem?_set_ne e, List.getElem?_append_left (List.getElem?_eq_some_iff.mp h).1]
    exact h
theorem maskAt_ne {m : List Bool} {i j : Nat} (h : (maskAt m i)[j]? = some true) (ne : i ≠ j) : m[j]? = some true := by
  unfold maskAt at h
  rw [List.getElem?_set_ne ne] at h
  by_cases hj : j < m.length
  · rw [List.getElem?_append_left hj] at h; exact h
  · rw [List.getElem?_append_right (by omega), List.getElem?_replicate] at h
    split at h <;> cases h
open Classical in
/-- without what is owned -/
noncomputable def minus (M : Addr → Prop) (H : Hp) : Hp := fun b => if M b then none else H b
theorem minus_in {M : Addr → Prop} {H : Hp} {b : Addr} (h : M b) : minus M H b = none := by
  unfold minus
  exact if_pos h
theorem minus_out {M : Addr → Prop} {H : Hp} {b : Addr} (h : ¬ M b) : minus M H b = H b := by
  unfold minus
  exact if_neg h
noncomputable def frX (c : Fr) (M : Addr → Prop) (H : Hp) (i : Nat) (a : Addr) (zm : ∀ x, c.Z x → ¬ M x ∧ H x ≠ none) : Fr where
  g := c.g
  Z := c.Z
  H0 := minus M H
  io := []
  zd := fun x z => by
    rw [minus_out (zm x z).1]
    exact (zm x z).2
  zi := fun _ h => absurd h (by simp)
  mask := maskAt c.mask i
  s0 := c.s0.set i (some (.ref a))
section
variable {X : Cx} {c : Fr} {W : WX} {p p1 p2 : Bool} {M M0 M1 M2 M' : Addr → Prop} {T T' as as1 as2 : List Addr} {σ σ2 : L2.St} {H H0 H1 H' H2 : Hp} {ρ ρ1 ρ' ρ2 : Rho} {i : Nat} {a : Addr}
theorem SR.zm (s : SR c M T σ H ρ) : ∀ x, c.Z x → ¬ M x ∧ H x ≠ none := fun x z => ⟨fun m => s.noZ m z, by
  cases e : c.H0 x with
  | none => exact absurd e (c.zd x z)
  | some o => rw [s.keep x o e fun q => c.zi x q z]; simp⟩
theorem RepS.hole {g : Ge} {Z : Addr → Prop} : ∀ {σ : L2.St} {ρ : Rho} {Ms : List Addr}, RepS g Z M H σ ρ Ms → ∀ (v : Nat) (x : Option V), ∃ Ms', RepS g Z M H (σ.set v x) (ρ.set v .no) Ms' ∧ Ms'.Sublist Ms
  | _, _, _, .nil, v, x => ⟨[], .nil, List.Sublist.refl _⟩
  | _, _, _, .no (as := as) r, 0, x => ⟨as, .no r, List.Sublist.refl _⟩
  | _, _, _, .no r, v + 1, x => by
    obtain ⟨Ms', r', s⟩ := r.hole v x
    exact ⟨Ms', .no r', s⟩
  | _, _, _, .yes (bs := bs) q r, 0, x => ⟨bs, .no r, List.sublist_append_right _ _⟩
  | _, _, _, .yes q r, v + 1, x => by
    obtain ⟨Ms', r', s⟩ := r.hole v x
    exact ⟨_ ++ Ms', .yes q r', List.Sublist.append (List.Sublist.refl _) s⟩
theorem SR.hole_slots {x : Option V} (s : SR c M T σ H ρ) (v : Nat) : ∃ Ms, RepS c.g c.Z M H (σ.set v x) (ρ.set v .no) Ms ∧ (Ms ++ T).Nodup ∧ ∀ a ∈ Ms ++ T, M a := by
  obtain ⟨Ms, r, nd, al⟩ := s.slots
  obtain ⟨Ms', r', sb⟩ := r.hole v x
  exact ⟨Ms', r', nd.sublist (List.Sublist.append sb (List.Sublist.refl _)), fun a h => al a ((List.Sublist.append sb (List.Sublist.refl _)).subset h)⟩
theorem SR.enter (s : SR c M T σ H ρ) (i : Nat) (a : Addr) : SR (frX c M H i a s.zm) M T (σ.set i (some (.ref a))) H (ρ.set i .no) := by
  refine ⟨s.hole_slots i, s.ty, fun b m => .inr ?_, fun b o e _ => ?_, fun j hj => ?_, ?_⟩
  · exact minus_in m
  · have e' : minus M H b = some o := e
    by_cases m : M b
    · rw [minus_in m] at e'; cases e'
    · rw [minus_out m] at e'; exact e'
  · show (σ.set i (some (.ref a)))[j]? = (c.s0.set i (some (.ref a)))[j]?
    by_cases e : i = j
    · subst e
      rw [List.getElem?_set, List.getElem?_set, s.ln, if_pos rfl, if_pos rfl]
    · rw [List.getElem?_set_ne e, List.getElem?_set_ne e]
      exact s.pin j (maskAt_ne hj e)
  · show (σ.set i (some (.ref a))).length = (c.s0.set i (some (.ref a))).length
    rw [List.length_set, List.length_set, s.ln]
theorem frX_keep {zm : ∀ x, c.Z x → ¬ M x ∧ H x ≠ none} (q : SR (frX c M H i a zm) M2 T' σ2 H2 ρ2) {b : Addr} {o : HO} (e : H b = some o) (n : ¬ M b) : H2 b = some o := by
  refine q.keep b o ?_ (by show b ∉ []; simp)
  show minus M H b = some o
  rw [minus_out n, e]
theorem frX_new {zm : ∀ x, c.Z x → ¬ M x ∧ H x ≠ none} (q : SR (frX c M H i a zm) M2 T' σ2 H2 ρ2) {b : Addr} (m : M2 b) : M b ∨ H b = none := by
  rcases q.src b m with z | z
  · exact absurd (show b ∈ [] from z) (by simp)
  · have z' : minus M H b = none := z
    by_cases mb : M b
    · exact .inl mb
    · rw [minus_out mb] at z'
      exact .inr z'
theorem SR.leave (s : SR c M T σ H ρ) (hm : c.mask[i]? ≠ some true) (q : SR (frX c M H i a s.zm) M2 T' σ2 H2 ρ2) (x : Option V) : SR c M2 T' (σ2.set i x) H2 (ρ2.set i .no) := by
  refine ⟨q.hole_slots i, q.ty, fun b m => ?_, fun b o e hb => ?_, fun j hj => ?_, ?_⟩
  · rcases frX_new q m with z | z
    · exact s.src b z
    · by_cases hb : b ∈ c.io
      · exact .inl hb
      · refine .inr ?_
        cases e : c.H0 b with
        | none => rfl
        | some o => rw [s.keep b o e hb] at z; cases z
  · refine frX_keep q (s.keep b o e hb) fun m => ?_
    rcases s.src b m with z | z
    · exact hb z
    · rw [z] at e; cases e
  · have ne : i ≠ j := fun e => hm (e ▸ hj)
    rw [List.getElem?_set_ne ne]
    have z := q.pin j (maskAt_of hj)
    rw [z]
    show (c.s0.set i (some (.ref a)))[j]? = _
    rw [List.getElem?_set_ne ne]
  · rw [List.length_set, q.ln]
    show (c.s0.set i (some (.ref a))).length = _
    rw [List.length_set]
theorem Post.leave (q1 : Post c p σ M0 T H0 M1 T H1 ρ1) (hm : c.mask[i]? ≠ some true) (q2 : Post (frX c M1 H1 i a q1.sr.zm) p2 σ2 M1 T H1 M2 T' H2 ρ2) (x : Option V) : Post c false (σ2.set i x) M0 T H0 M2 T' H2 (ρ2.set i .no) := by
  refine ⟨q1.sr.leave hm q2.sr x, fun b o e h => q2.keep b o (q1.keep b o e h) fun m => ?_, fun b m => ?_, fun e => nomatch e⟩
  · rcases q1.new b m with z | z
    · exact h z
    · rw [e] at z; cases z
  · rcases q2.new b m with z | z
    · exact q1.new b z
    · by_cases hb : M0 b
      · exact .inl hb
      · refine .inr ?_
        cases e : H0 b with
        | none => rfl
        | some o => rw [q1.keep b o e fun y => absurd y hb] at z; cases z
/-- what the suite knows of its exception -/
structure XIn (c : Fr) (M : Addr → Prop) (H : Hp) (i : Nat) (a : Addr) (cls : Value) (d : Option Addr) (x : Exc) : Prop where
  zm : ∀ x, c.Z x → ¬ M x ∧ H x ≠ none
  ty : ∀ b, M b → Typed H b
  rep : XRep c M H cls d x
  ln : i < c.s0.length
theorem XRg.moved {g : Ge} {Z ch : Addr → Prop} {cls : Value} {d : Option Addr} {x : Exc} (m : Moved ch M M' H H') (r : XRg g Z M H cls d x) : XRg g Z M' H' cls d x := by
  cases r with
  | no h => exact .no h
  | yes h e n w r =>
    refine .yes h (m.keep _ _ e fun z => ?_) n w (r.moved m)
    rcases m.ty _ z with ⟨_, q⟩ | ⟨_, _, _, q⟩ <;> (rw [e] at q; cases q)
theorem XIn.at_ {cls : Value} {d : Option Addr} {x : Exc} (h : XIn c M0 H0 i a cls d x) (s : SR (frX c M0 H0 i a h.zm) M T σ H ρ) : σ[i]? = some (some (.ref a)) := by
  rw [s.pin i maskAt_self]
  show (c.s0.set i (some (.ref a)))[i]? = _
  rw [List.getElem?_set_self h.ln]
theorem XIn.now {cls : Value} {d : Option Addr} {x : Exc} (h : XIn c M0 H0 i a cls d x) (s : SR (frX c M0 H0 i a h.zm) M T σ H ρ) : XRep c M H cls d x :=
  XRg.moved (ch := M0) ⟨fun b o e n => frX_keep s e n, h.ty, fun _ z => z, fun b m => frX_new s m⟩ h.rep
/-! ### which classes a clause catches -/
structure XM (K : PySem.W.Frag) (mg : Str → Option Value) (cn y : Str) (b : Bool) : Prop where
  ex : ∃ C D, mg cn = some (.ref C) ∧ mg y = some (.ref D) ∧ PySem.W.exmOne K (.ref C) (.ref D) = some b
def lookB (L : List (Str × Bool)) (cn : Str) : Option Bool := match L with
  | [] => none
  | p :: L => if p.1 = cn then some p.2 else lookB L cn
theorem lookB_mem : ∀ {L : List (Str × Bool)} {cn : Str} {b : Bool}, lookB L cn = some b → (cn, b) ∈ L
  | [], _, _, h => by cases h
  | p :: L, cn, b, h => by
    unfold lookB at h
    split at h
    · rename_i e
      cases h
      rw [← e]
      exact List.mem_cons_self
    · exact List.mem_cons_of_mem _ (lookB_mem h)
def tryAsS (L : List (Str × Bool)) (i : Nat) (f : SS) (g : Exc → SS) : SS := fun ρ k => f ρ { k with ex := fun x ρ' => match lookB L x.cn with
  | some true => i < ρ'.length ∧ g x (ρ'.set i .no) ⟨fun ρ2 => k.nx (ρ2.set i .no), fun ev ρ2 => k.rt ev (ρ2.set i .no), fun _ _ => False, fun ρ2 => k.bk (ρ2.set i .no), fun ρ2 => k.ct (ρ2.set i .no)⟩
  | some false => k.ex x ρ'
  | none => False }
theorem tryAsS_mono {L : List (Str × Bool)} {i : Nat} {f : SS} {g : Exc → SS} (hf : MonoS f) (hg : ∀ x, MonoS (g x)) : MonoS (tryAsS L i f g) := fun ρ k k' l h => by
  unfold tryAsS at h ⊢
  refine hf ρ _ _ (?_ : SK.le _ _) h
  refine ⟨l.1, l.2.1, fun x ρ' q => ?_, l.2.2.2.1, l.2.2.2.2⟩
  dsimp only at q ⊢
  split at q
  · refine ⟨q.1, hg x _ _ _ ?_ q.2⟩
    exact ⟨fun ρ2 z => l.1 _ z, fun ev ρ2 z => l.2.1 _ _ z, fun _ _ z => z, fun ρ2 z => l.2.2.2.1 _ z, fun ρ2 z => l.2.2.2.2 _ z⟩
  · exact l.2.2.1 _ _ q
  · exact q
theorem sj_tryas {y n : Str} {body suite : List Stmt} {b₀ : Stmt} {np pos pos' : Pos} {L : List (Str × Bool)} {f : SS} {g : Exc → SS} (hs : X.stack = X.env :: X.outer) (hf : X.env.frame = some X.env.locals) (hN : X.N.Nodup) (hi : X.N[i]? = some n) (hln : X.env.kindOf n = some .local)
    (hK : X.K = c.g.K) (hmg : X.mg = c.g.mg) (hgl : L2.Gl X y) (tk : L2.Takes X W) (hm : c.mask[i]? ≠ some true) (hg : ∀ x, MonoS (g x)) (p0 : Str × Bool) (L' : List (Str × Bool)) (hL : L = p0 :: L') (xm : ∀ p ∈ L, XM c.g.K c.g.mg p.1 y p.2)
    (hb : ∀ (W : WX) (pn : List (Addr × Obj)) (xe : Value → Shared → Prop), L2.Takes (X.tr pn xe) W → PassesOwn (model X.prog X.w) X.A X.env xe → SJs (X.tr pn xe) c W body f)
    (hsu : ∀ (a : Addr) (oe : Obj) (cls : Value) (d : Option Addr) (pn : List (Addr × Obj)) (M0 : Addr → Prop) (H0 : Hp) (x : Exc) (h : XIn c M0 H0 i a cls d x), L2.Zc cls d oe → (∃ vs, oe.data = .fields vs) → SJs (X.suite a ((a, oe) :: pn)) (frX c M0 H0 i a h.zm) W0 (b₀ :: suite) (g x))
    (hdb : (y == ("__debug__" : Str)) = false := by decide) : SJ X c W (.Try body [.ExceptHandler (some (.Name y np)) (some n) (b₀ :: suite) pos'] [] [] pos) (tryAsS L i f g) := by
  have hfm : MonoS f := (hb W0 [] (fun _ _ => False) L2.takes0 PassesOwn.never).mono
  obtain ⟨C0, D, _, hD, _⟩ := (xm p0 (by rw [hL]; exact List.mem_cons_self)).ex
  refine ⟨tryAsS_mono hfm hg, PS.imp (L2.ps_try_as (c := .ref D) (tb := fun W => rdS c W f) (ts := fun a cls d De σ H => ∃ M0 H0 x, ∃ h : XIn c M0 H0 i a cls d x, rdS (frX c M0 H0 i a h.zm) W0 (g x) De σ H) hs hf hN hi hln ⟨hgl, hdb, .inl (by rw [hmg]; exact hD)⟩ tk
    (fun W pn xe t po => (hb W pn xe t po).run) fun a oe cls d pn hz hd => ⟨fun pins s σ H De I q => ?_⟩) ?_⟩
  · obtain ⟨M0, H0, x, h, q⟩ := q
    exact (hsu a oe cls d pn M0 H0 x h hz hd).run.run pins s σ H De I q
  · rintro De σ H ⟨ρ, M, T, s, k⟩
    unfold tryAsS at k
    refine ⟨ρ, M, T, s, hfm ρ _ _ (?_ : SK.le _ _) k⟩
    refine ⟨fun _ z => z, fun _ _ z => z, fun x ρ1 q => ?_, fun _ z => z, fun _ z => z⟩
    dsimp only at q
    intro σ1 cls dd H1 M1 q1 r1
    have look : ∀ b, lookB L x.cn = some b → PySem.W.exmOne X.K cls (.ref D) = some b := fun b e => by
      obtain ⟨C, D', hC, hD', hx⟩ := (xm _ (lookB_mem e)).ex
      have eD : D' = D := by rw [hD] at hD'; cases hD'; rfl
      subst eD
      cases r1 with
      | no h => rw [show c.g.mg _ = _ from hC] at h; cases h; rw [hK]; exact hx
      | yes h => rw [show c.g.mg _ = _ from hC] at h; cases h; rw [hK]; exact hx
    cases e : lookB L x.cn with
    | none => rw [e] at q; exact q.elim
    | some b =>
      rw [e] at q
      refine ⟨b, look b e, fun hb' a na => ?_, fun hb' => ?_⟩
      · subst hb'
        have hln2 : i < c.s0.length := by
          obtain ⟨Ms, r, _, _⟩ := q1.sr.slots
          rw [← q1.sr.ln, r.len]
          exact q.1
        have hx : XIn c M1 H1 i a cls dd x := ⟨q1.sr.zm, q1.sr.ty, r1, hln2⟩
        refine ⟨M1, H1, x, hx, ρ1.set i .no, M1, T, q1.sr.enter i a, hg x _ _ _ (?_ : SK.le _ _) q.2⟩
        refine ⟨fun ρ2 z σ2 H2 M2 q2 => ?_, fun ev ρ2 z σ2 v H2 M2 as q2 r2 => ?_, fun _ _ z => z.elim, fun ρ2 z σ2 H2 M2 q2 => ?_, fun ρ2 z σ2 H2 M2 q2 => ?_⟩
        · exact z _ H2 M2 (q1.leave hm q2 none)
        · exact z (σ2.set i none) v H2 M2 as (q1.leave hm q2 none) r2
        · exact z _ H2 M2 (q1.leave hm q2 none)
        · exact z _ H2 M2 (q1.leave hm q2 none)
      · subst hb'
        exact q σ1 cls dd H1 M1 q1 r1
/-- .. except y: without a name -/
def tryOnlyS (L : List (Str × Bool)) (f g : SS) : SS := fun ρ k => f ρ { k with ex := fun x ρ' => match lookB L x.cn with
  | some true => g ρ' { k with ex := fun _ _ => False }
  | some false => k.ex x ρ'
  | none => False }
end
end VS
set_option Elab.async false
set_option linter.all false
set_option maxRecDepth 100000
set_option maxHeartbeats 4000000
/-! VS19: what a suite asks of its exception. Own work. -/
namespace VS
open PySem PySem.Spec PyProof.Rows
open L2 (V Hp HO upd SqL SqT Rd Cx TE TT TA TS TG TGs VK XK WX PE PT PA PS PSs PG PGs OpR RelV CallR Sp FnOk atI)
section
variable {X : Cx} {c : Fr} {W : WX} {p p1 p2 : Bool} {M M0 M1 M2 M' : Addr → Prop} {T T' as as1 as2 : List Addr} {σ σ2 : L2.St} {H H0 H1 H' H2 : Hp} {ρ ρ1 ρ' ρ2 : Rho} {i : Nat} {a : Addr} {oe : Obj} {cls : Value} {d : Option Addr} {pn : List (Addr × Obj)} {x : Exc}
/-! e.f -/
def lookF : List Str → List D → Str → Option D
  | n :: ns, d :: ds, f => if n = f then some d else lookF ns ds f
  | _, _, _ => none
theorem lookF_rep {g : Ge} {Z : Addr → Prop} {f : Str} {d : D} : ∀ {ns : List Str} {ds : List D} {fs : List (Str × V)}, Reps g Z M H (fs.map (·.2)) ds → fs.map (·.1) = ns → lookF ns ds f = some d → ∃ v, fs.lookup f = some v ∧ Rep g Z M H v d
  | _, _, [], r, e, h => by
    subst e
    cases r
    cases h
  | _, _, (n, v) :: fs, r, e, h => by
    subst e
    cases r with
    | cons r rs =>
      rw [L2.lookup_put]
      have h' : (if n = f then some _ else lookF (fs.map (·.1)) _ f) = some d := h
      by_cases e : n = f
      · rw [if_pos e] at h'
        cases h'
        exact ⟨v, if_pos e.symm, r⟩
      · rw [if_neg e] at h'
        rw [if_neg fun z => e z.symm]
        exact lookF_rep rs rfl h'
/-- a class whose instances keep f -/
structure XFl (K : PySem.W.Frag) (mg : Str → Option Value) (cn f : Str) : Prop where
  ex : ∃ C, mg cn = some (.ref C) ∧ L2.XfC K C ∧ PySem.W.findIn K (.ref C) f = some none
def xfE (cn f : Str) (x : Exc) : ES := fun ρ K _ => x.cn = cn ∧ match lookF x.ns x.ds f with
  | some d => K (.v d) ρ
  | none => False
theorem xfE_mono {cn f : Str} : Mono (xfE cn f x) := fun ρ K K' E E' hk _ h => by
  unfold xfE at h ⊢
  refine ⟨h.1, ?_⟩
  have h2 := h.2
  split at h2
  · exact hk _ _ h2
  · exact h2
theorem ej_xf {e : Expr} {cn f : Str} {pos : Pos} (h : XIn c M0 H0 i a cls d x) (hz : L2.Zc cls d oe) (hd : ∃ vs, oe.data = .fields vs) (hK : X.K = c.g.K) (xf : XFl c.g.K c.g.mg cn f) (he : PE (X.suite a ((a, oe) :: pn)) e (L2.tVar i)) (hb : attributeBase e f X.env (eval e X.env) = eval e X.env := by rfl) :
    EJ (X.suite a ((a, oe) :: pn)) (frX c M0 H0 i a h.zm) W0 true (.Attribute e f pos) (xfE cn f x) := by
  obtain ⟨C, gC, T, hno⟩ := xf.ex
  refine ⟨xfE_mono, PE.imp (L2.pe_xf (hK ▸ T) (hK ▸ hno) hz hd he hb) ?_⟩
  rintro σ H Q ⟨ρ, M, T', s, ec, k⟩
  have r := h.now s
  obtain ⟨xn, ns, ds⟩ := x
  dsimp only at ec k
  subst ec
  cases r with
  | no _ => exact k.elim
  | @yes C' d' _ fs _ _ _ g1 e1 n1 w1 r1 =>
    have eC : C' = C := by rw [gC] at g1; cases g1; rfl
    subst eC
    cases l : lookF ns ds f with
    | none => rw [l] at k; exact k.elim
    | some dd =>
      rw [l] at k
      subst w1
      obtain ⟨v, lv, rv⟩ := lookF_rep r1 n1 l
      exact ⟨.ref a, h.at_ s, rfl, rfl, d', fs, v, rfl, e1, lv, k v H M [] (Post.same s) (.v rv)⟩
/-! isinstance(e, y), isinstance(e, (y, ..)) -/
def CVal (mg : Str → Option Value) (y : Str) (v : V) (cv : Value) : Prop := (∃ D, mg y = some (.ref D) ∧ v = .ref D ∧ cv = .ref D) ∨ (mg y = none ∧ ∃ n, bootBuiltins y = some (.type n) ∧ y ≠ "__name__" ∧ v = .ty n ∧ cv = .type n)
theorem CVal.inj {mg : Str → Option Value} {y : Str} {v v' : V} {cv cv' : Value} (h : CVal mg y v cv) (h' : CVal mg y v' cv') : v' = v ∧ cv' = cv := by
  rcases h with ⟨D, h1, rfl, rfl⟩ | ⟨h1, n, h2, _, rfl, rfl⟩
  · rcases h' with ⟨D', h1', rfl, rfl⟩ | ⟨h1', n', h2', _, rfl, rfl⟩
    · rw [h1] at h1'; cases h1'; exact ⟨rfl, rfl⟩
    · rw [h1] at h1'; cases h1'
  · rcases h' with ⟨D', h1', rfl, rfl⟩ | ⟨h1', n', h2', _, rfl, rfl⟩
    · rw [h1] at h1'; cases h1'
    · rw [h2] at h2'; cases h2'; exact ⟨rfl, rfl⟩
theorem CVal.rel {mg : Str → Option Value} {y : Str} {v : V} {cv : Value} (h : CVal mg y v cv) : RelV v cv ∧ ∀ u, RelV v u → u = cv := by
  rcases h with ⟨D, h1, rfl, rfl⟩ | ⟨h1, n, h2, _, rfl, rfl⟩
  · exact ⟨rfl, fun u r => r⟩
  · exact ⟨rfl, fun u r => r⟩
theorem CVal.pe {X : Cx} {y : Str} {v : V} {cv : Value} {pos : Pos} (h : CVal X.mg y v cv) (hg : L2.Gl X y) (hd : (y == ("__debug__" : Str)) = false) : PE X (.Name y pos) (L2.tC v) := by
  have r := h.rel.1
  rcases h with ⟨D, h1, rfl, rfl⟩ | ⟨h1, n, h2, hn, rfl, rfl⟩
  · exact L2.pe_glob hg h1 r hd
  · exact L2.pe_bltn hg h1 h2 r hn hd
structure KN (K : PySem.W.Frag) (mg : Str → Option Value) (cn y : Str) (b : Bool) : Prop where
  ex : ∃ C v cv, mg cn = some (.ref C) ∧ L2.ExcC K C ∧ CVal mg y v cv ∧ PySem.W.kitOne K (.ref C) cv = some b
inductive CVals (mg : Str → Option Value) : List Str → List V → List Value → Prop
  | nil : CVals mg [] [] []
  | cons {y : Str} {v : V} {cv : Value} {ys : List Str} {vs : List V} {cvs : List Value} : CVal mg y v cv → CVals mg ys vs cvs → CVals mg (y :: ys) (v :: vs) (cv :: cvs)
structure KNs (K : PySem.W.Frag) (mg : Str → Option Value) (cn : Str) (ys : List Str) (b : Bool) : Prop where
  ex : ∃ C vs cvs, mg cn = some (.ref C) ∧ L2.ExcC K C ∧ CVals mg ys vs cvs ∧ PySem.W.kitAny K (.ref C) cvs = some b
theorem kns_one {K : PySem.W.Frag} {mg : Str → Option Value} {cn y : Str} {b : Bool} (h : KN K mg cn y b) : KNs K mg cn [y] b := by
  obtain ⟨C, v, cv, h1, h2, h3, h4⟩ := h.ex
  refine ⟨C, [v], [cv], h1, h2, .cons h3 .nil, ?_⟩
  unfold PySem.W.kitAny
  rw [h4]
  cases b <;> rfl
theorem kns_cons {K : PySem.W.Frag} {mg : Str → Option Value} {cn y : Str} {ys : List Str} {b b2 : Bool} (h : KN K mg cn y b) (hs : KNs K mg cn ys b2) : KNs K mg cn (y :: ys) (b || b2) := by
  obtain ⟨C, v, cv, h1, h2, h3, h4⟩ := h.ex
  obtain ⟨C', vs, cvs, k1, k2, k3, k4⟩ := hs.ex
  rw [h1] at k1
  cases k1
  refine ⟨C, v :: vs, cv :: cvs, h1, h2, .cons h3 k3, ?_⟩
  unfold PySem.W.kitAny
  rw [h4]
  cases b
  · exact k4
  · rfl
theorem CVals.inj {mg : Str → Option Value} : ∀ {ys : List Str} {vs vs' : List V} {cvs cvs' : List Value}, CVals mg ys vs cvs → CVals mg ys vs' cvs' → vs' = vs ∧ cvs' = cvs
  | [], _, _, _, _, .nil, .nil => ⟨rfl, rfl⟩
  | _ :: _, _, _, _, _, .cons h hs, .cons k ks => by
    obtain ⟨rfl, rfl⟩ := h.inj k
    obtain ⟨rfl, rfl⟩ := hs.inj ks
    exact ⟨rfl, rfl⟩
theorem CVals.len {mg : Str → Option Value} : ∀ {ys : List Str} {vs : List V} {cvs : List Value}, CVals mg ys vs cvs → vs.length = ys.length
  | _, _, _, .nil => rfl
  | _, _, _, .cons _ hs => by rw [List.length_cons, List.length_cons, hs.len]
theorem CVals.vals {mg : Str → Option Value} : ∀ {ys : List Str} {vs : List V} {cvs us : List Value}, CVals mg ys vs cvs → L2.Vals vs us → us = cvs
  | _, _, _, _, .nil, .nil => rfl
  | _, _, _, _, .cons h hs, .cons r rs => by rw [h.rel.2 _ r, hs.vals rs]
theorem xd_inst {X : Cx} {pins : List (Addr × Obj)} {s : Shared} {C : Addr} (I : L2.Inv (X.suite a ((a, oe) :: pn)) pins σ H s) (hz : L2.Zc (.ref C) d oe) (hd : ∃ vs, oe.data = .fields vs) (hx : ∀ dd, d = some dd → ∃ fs, H dd = some (.xd fs)) : ∃ od, PySem.W.InstAt s.heap a oe C od := by
  obtain ⟨ha, _⟩ := I.pin (a, oe) (List.mem_append_left _ List.mem_cons_self)
  obtain ⟨vs, hd⟩ := hd
  have hnc : PySem.W.notCls oe = true := by unfold PySem.W.notCls; rw [hd] <;> rfl
  cases d with
  | none => exact ⟨none, ha, hz.1, hnc, by rw [hz.2]; exact trivial⟩
  | some dd =>
    obtain ⟨fs, e⟩ := hx dd rfl
    have hx : L2.ObjOk X.prog X.w H s.heap dd (.xd fs) := I.hok dd _ e
    obtain ⟨mA, hns, hr⟩ := hx
    obtain ⟨od, ho, hl⟩ := L2.lookIn_ns hns
    exact ⟨some od, ha, hz.1, hnc, by rw [hz.2]; exact ho⟩
theorem kitx_of_exc {K : PySem.W.Frag} {C : Addr} {ox : Obj} {od : Option Obj} (E : L2.ExcC K C) : PySem.W.KitX K (.ref a) (.ref C) (fun h => PySem.W.InstAt h a ox C od) :=
  PySem.W.kitx_exc (by obtain ⟨cd, hc, _⟩ := PySem.W.any_some E.hd; rw [hc]; rfl) E.hg E.hk E.hs E.ha E.hn E.ht E.hm
theorem call_isx1 (hz : L2.Zc cls d oe) (hd : ∃ vs, oe.data = .fields vs) : CallR (X.suite a ((a, oe) :: pn)) (.builtin "isinstance") (fun xs H Q => ∃ v cv C b, xs = [.ref a, v] ∧ (∀ u, RelV v u → u = cv) ∧ cls = .ref C ∧ L2.ExcC X.K C ∧ PySem.W.kitOne X.K (.ref C) cv = some b ∧ (∀ dd, d = some dd → ∃ fs, H dd = some (.xd fs)) ∧ Q (.bl b) H) := by
  intro pins s σ H xs us Q I r h
  obtain ⟨v, cv, C, b, rfl, hcv, rfl, E, e, hx, q⟩ := h
  obtain ⟨u, w', rfl, r1, r2⟩ := L2.vals2 r
  obtain rfl : u = Value.ref a := r1
  have ec := hcv _ r2
  subst ec
  obtain ⟨od, J⟩ := xd_inst I hz hd hx
  exact PySem.W.kia_one (kitx_of_exc E) I.kIn J e (fun z => nomatch z) fun tk => ⟨.bl b, H, I.kept (t' := tk) fun _ _ z => z, rfl, q⟩
theorem call_isxs (hz : L2.Zc cls d oe) (hd : ∃ vs, oe.data = .fields vs) : CallR (X.suite a ((a, oe) :: pn)) (.builtin "isinstance") (fun xs H Q => ∃ tp vs cvs C b, xs = [.ref a, .ref tp] ∧ H tp = some (.tup vs) ∧ (∀ us, L2.Vals vs us → us = cvs) ∧ cls = .ref C ∧ L2.ExcC X.K C ∧ PySem.W.kitAny X.K (.ref C) cvs = some b ∧ (∀ dd, d = some dd → ∃ fs, H dd = some (.xd fs)) ∧ Q (.bl b) H) := by
  intro pins s σ H xs us Q I r h
  obtain ⟨tp, vs, cvs, C, b, rfl, htp, hcv, rfl, E, e, hx, q⟩ := h
  obtain ⟨u, w', rfl, r1, r2⟩ := L2.vals2 r
  obtain rfl : u = Value.ref a := r1
  obtain rfl : w' = Value.ref tp := r2
  obtain ⟨od, J⟩ := xd_inst I hz hd hx
  obtain ⟨its, rv, pl, _⟩ := I.tuple (.inl (.inl htp))
  have ei := hcv _ rv
  subst ei
  obtain ⟨⟨cl, dd, data, sl⟩, ho, hc, n, hdt⟩ := pl
  simp only at hc hdt
  subst hc hdt
  exact PySem.W.kia_tup (kitx_of_exc E) I.kIn J ho e (fun z => nomatch z) fun tk => ⟨.bl b, H, I.kept (t' := tk) fun _ _ z => z, rfl, q⟩
def kinE (L : List (Str × Bool)) (x : Exc) : ES := fun ρ K _ => match lookB L x.cn with
  | some b => K (.v (.bl b)) ρ
  | none => False
theorem kinE_mono {L : List (Str × Bool)} : Mono (kinE L x) := fun ρ K K' E E' hk _ h => by
  unfold kinE at h ⊢
  split at h
  · exact hk _ _ h
  · exact h
theorem XRg.xd {g : Ge} {Z : Addr → Prop} (r : XRg g Z M H cls d x) : ∀ dd, d = some dd → ∃ fs, H dd = some (.xd fs) := fun dd e => by
  cases r with
  | no _ => cases e
  | yes _ h _ _ _ => cases e; exact ⟨_, h⟩
theorem XRg.clsx {g : Ge} {Z : Addr → Prop} (r : XRg g Z M H cls d x) : ∃ C, cls = .ref C ∧ g.mg x.cn = some (.ref C) := by
  cases r with
  | no h => exact ⟨_, rfl, h⟩
  | yes h _ _ _ _ => exact ⟨_, rfl, h⟩
theorem ej_isx {e : Expr} {y : Str} {L : List (Str × Bool)} {pp py pos : Pos} (p0 : Str × Bool) (L' : List (Str × Bool)) (hL : L = p0 :: L') (h : XIn c M0 H0 i a cls d x) (hz : L2.Zc cls d oe) (hd : ∃ vs, oe.data = .fields vs) (hK : X.K = c.g.K) (hmg : X.mg = c.g.mg)
    (hgi : L2.Gl X "isinstance") (hmi : X.mg "isinstance" = none) (hvi : bootBuiltins "isinstance" = some (.builtin "isinstance")) (kn : ∀ p ∈ L, KN c.g.K c.g.mg p.1 y p.2) (he : PE (X.suite a ((a, oe) :: pn)) e (L2.tVar i)) (hgy : L2.Gl X y)
    (hdb : (y == ("__debug__" : Str)) = false := by decide)
    (hs : starEach [e, .Name y py] X.env = (false, eval e X.env) :: starEach [.Name y py] X.env := by rfl) (hs2 : starEach [.Name y py] X.env = [(false, eval (.Name y py) X.env)] := by rfl) (hpl : (backTo pos (starEach [.Name y py] X.env)).any (·.1) = false := by rfl) :
    EJ (X.suite a ((a, oe) :: pn)) (frX c M0 H0 i a h.zm) W0 true (.Call (.Name "isinstance" pp) [e, .Name y py] [] pos) (kinE L x) := by
  obtain ⟨C0, v, cv, _, _, hcv, _⟩ := (kn p0 (by rw [hL]; exact List.mem_cons_self)).ex
  have pe : PE (X.suite a ((a, oe) :: pn)) (.Name y py) (L2.tC v) := CVal.pe (X := X.suite a ((a, oe) :: pn)) (by rw [show (X.suite a ((a, oe) :: pn)).mg = X.mg from rfl, hmg]; exact hcv) hgy hdb
  refine ⟨kinE_mono, PE.imp (L2.pe_callB (X := X.suite a ((a, oe) :: pn)) (call_isx1 hz hd) hgi hmi hvi (L2.pa_cons he (L2.pa_cons pe L2.pa_nil hs2) hs) (by decide) (by decide) hs hpl) ?_⟩
  rintro σ H Q ⟨ρ, M, T', s, k⟩
  have r := h.now s
  unfold kinE at k
  cases l : lookB L x.cn with
  | none => rw [l] at k; exact k.elim
  | some b =>
    rw [l] at k
    obtain ⟨C, v', cv', g1, E, hcv', hk⟩ := (kn _ (lookB_mem l)).ex
    obtain ⟨rfl, rfl⟩ := hcv.inj hcv'
    obtain ⟨C', e1, e2⟩ := r.clsx
    rw [show c.g.mg x.cn = _ from e2] at g1
    cases g1
    exact ⟨.ref a, h.at_ s, v', cv', _, b, rfl, hcv.rel.2, e1, hK ▸ E, hK ▸ hk, r.xd, k (.bl b) H M [] (Post.same s) (.v (.bl b))⟩
/-- the classes' names, as they stand in a tuple -/
inductive NmEs (X : Cx) : List Str → List Expr → Prop
  | nil : NmEs X [] []
  | cons {y : Str} {q : Pos} {ys : List Str} {es : List Expr} (hg : L2.Gl X y) (hd : (y == ("__debug__" : Str)) = false) : NmEs X ys es → NmEs X (y :: ys) (.Name y q :: es)
theorem pe_cvals {X : Cx} : ∀ {ys : List Str} {vs : List V} {cvs : List Value} {es : List Expr}, CVals X.mg ys vs cvs → NmEs X ys es → PA X es (fun σ H Q => Q vs H)
  | _, _, _, _, .nil, .nil => PA.imp L2.pa_nil fun _ _ _ q => q
  | _, _, _, _, .cons h hs, .cons hg hd ns => PA.imp (L2.pa_cons (h.pe hg hd) (pe_cvals hs ns) rfl) fun σ H Q q => q
theorem ej_isxs {e : Expr} {ys : List Str} {es : List Expr} {L : List (Str × Bool)} {pp py pos : Pos} {x1} (p0 : Str × Bool) (L' : List (Str × Bool)) (hL : L = p0 :: L') (h : XIn c M0 H0 i a cls d x) (hz : L2.Zc cls d oe) (hd : ∃ vs, oe.data = .fields vs) (hK : X.K = c.g.K) (hmg : X.mg = c.g.mg)
    (hgi : L2.Gl X "isinstance") (hmi : X.mg "isinstance" = none) (hvi : bootBuiltins "isinstance" = some (.builtin "isinstance")) (kn : ∀ p ∈ L, KNs c.g.K c.g.mg p.1 ys p.2) (he : PE (X.suite a ((a, oe) :: pn)) e (L2.tVar i)) (hl8 : ys.length ≤ 100) (ne : NmEs (X.suite a ((a, oe) :: pn)) ys es)
    (hs : starEach [e, .Tuple es x1 py] X.env = (false, eval e X.env) :: starEach [.Tuple es x1 py] X.env := by rfl) (hs2 : starEach [.Tuple es x1 py] X.env = [(false, eval (.Tuple es x1 py) X.env)] := by rfl) (hpl : (backTo pos (starEach [.Tuple es x1 py] X.env)).any (·.1) = false := by rfl) :
    EJ (X.suite a ((a, oe) :: pn)) (frX c M0 H0 i a h.zm) W0 true (.Call (.Name "isinstance" pp) [e, .Tuple es x1 py] [] pos) (kinE L x) := by
  obtain ⟨C0, vs, cvs, _, _, hcv, _⟩ := (kn p0 (by rw [hL]; exact List.mem_cons_self)).ex
  have hlv : vs.length = ys.length := hcv.len
  have pe : PA (X.suite a ((a, oe) :: pn)) es (fun σ H Q => Q vs H) := pe_cvals (X := X.suite a ((a, oe) :: pn)) (by rw [show (X.suite a ((a, oe) :: pn)).mg = X.mg from rfl, hmg]; exact hcv) ne
  refine ⟨kinE_mono, PE.imp (L2.pe_callB (X := X.suite a ((a, oe) :: pn)) (call_isxs hz hd) hgi hmi hvi (L2.pa_cons he (L2.pa_cons (L2.pe_tup pe) L2.pa_nil hs2) hs) (by decide) (by decide) hs hpl) ?_⟩
  rintro σ H Q ⟨ρ, M, T', s, k⟩
  have r := h.now s
  unfold kinE at k
  cases l : lookB L x.cn with
  | none => rw [l] at k; exact k.elim
  | some b =>
    rw [l] at k
    obtain ⟨C, vs', cvs', g1, E, hcv', hk⟩ := (kn _ (lookB_mem l)).ex
    obtain ⟨rfl, rfl⟩ := hcv.inj hcv'
    obtain ⟨C', e1, e2⟩ := r.clsx
    rw [show c.g.mg x.cn = _ from e2] at g1
    cases g1
    refine ⟨.ref a, h.at_ s, by rw [hlv]; exact le1000 (by omega), fun pa hp => ?_⟩
    have xe : Ext H (upd H pa (.tup vs')) := Ext.new hp
    exact ⟨pa, vs', cvs', _, b, rfl, L2.upd_same, fun us => hcv.vals, e1, hK ▸ E, hK ▸ hk, fun dd e => (r.xd dd e).imp fun fs z => xe _ _ z, k (.bl b) _ M [] ((Post.same s).ext xe) (.v (.bl b))⟩
/-! what grows with its ends -/
theorem nxS_mono : MonoS nxS := fun ρ k k' l h => l.1 _ h
theorem retNS_mono : MonoS retNS := fun ρ k k' l h => l.2.1 _ _ h
theorem retS_mono {f : ES} (hf : Mono f) : MonoS (retS f) := fun ρ k k' l h => hf _ _ _ _ _ (fun _ _ => l.2.1 _ _) (fun _ _ => l.2.2.1 _ _) h
theorem ifS_mono {t : BS} {f g : SS} (ht : MonoB t) (hf : MonoS f) (hg : MonoS g) : MonoS (ifS t f g) := fun ρ k k' l h => ht _ _ _ _ _ (fun b ρ1 h => by
  split at h
  · rename_i hb; rw [if_pos hb]; exact hf _ _ _ l h
  · rename_i hb; rw [if_neg hb]; exact hg _ _ _ l h) (fun _ _ => l.2.2.1 _ _) h
theorem cE_mono {d : D} : Mono (cE d) := fun ρ K K' E E' hk _ h => hk _ _ h
theorem vE_mono {i : Nat} : Mono (vE i) := fun ρ K K' E E' hk _ h => by
  unfold vE at h ⊢
  split at h
  · exact hk _ _ h
  · exact h
theorem notT_mono {f : BS} (hf : MonoB f) : MonoB (notT f) := fun ρ K K' E E' hk he h => hf _ _ _ _ _ (fun b ρ1 => hk _ _) he h
theorem nilA_mono : MonoA nilA := fun ρ K K' E E' hk _ h => hk _ _ h
theorem consA_mono {p2 : Bool} {f : ES} {g : AS} (hf : Mono f) (hg : MonoA g) : MonoA (consA p2 f g) := fun ρ K K' E E' hk hx h => hf _ _ _ _ _ (fun x ρ1 h => hg _ _ _ _ _ (fun xs ρ2 h => ⟨h.1, hk _ _ h.2⟩) hx h) hx h
theorem tupE_mono {g : AS} (hg : MonoA g) : Mono (tupE g) := fun ρ K K' E E' hk he q => hg _ _ _ _ _ (fun xs ρ' k => ⟨k.1, by
  have k2 := k.2
  split at k2
  · exact hk _ _ k2
  · split at k2
    · exact hk _ _ k2
    · exact k2⟩) he q
theorem lstE_mono {g : AS} (hg : MonoA g) : Mono (lstE g) := fun ρ K K' E E' hk he q => hg _ _ _ _ _ (fun xs ρ' k => ⟨k.1, by
  have k2 := k.2
  split at k2
  · exact hk _ _ k2
  · exact k2⟩) he q
theorem callV_mono {R : CR} {g : AS} (hR : MonoC R) (hg : MonoA g) : Mono (callV R g) := fun ρ K K' E E' hk he h => hg _ _ _ _ _ (fun xs ρ1 h => hR _ _ _ _ _ _ hk he h) he h
theorem andV_mono {f g : ES} (hf : Mono f) (hg : Mono g) : Mono (andV f g) := fun ρ K K' E E' hk he h => hf _ _ _ _ _ (fun x ρ1 h => by
  split at h
  · split at h
    · rename_i hb; rw [if_pos hb]; exact hg _ _ _ _ _ hk he h
    · rename_i hb; rw [if_neg hb]; exact hk _ _ h
  · exact h) he h
theorem orV_mono {f g : ES} (hf : Mono f) (hg : Mono g) : Mono (orV f g) := fun ρ K K' E E' hk he h => hf _ _ _ _ _ (fun x ρ1 h => by
  split at h
  · split at h
    · rename_i hb; rw [if_pos hb]; exact hk _ _ h
    · rename_i hb; rw [if_neg hb]; exact hg _ _ _ _ _ hk he h
  · exact h) he h
theorem notV_mono {f : ES} (hf : Mono f) : Mono (notV f) := fun ρ K K' E E' hk he h => hf _ _ _ _ _ (fun x ρ1 h => by
  split at h
  · exact hk _ _ h
  · exact h) he h
end
end VS
set_option Elab.async false
set_option linter.all false
set_option maxRecDepth 100000
set_option maxHeartbeats 4000000
/-! VS20: what is never reached; what is frozen on its way; is True; all. Own work. -/
namespace VS
open PySem PySem.Spec PyProof.Rows
open L2 (V Hp HO upd SqL SqT Rd Cx TE TT TA TS TG TGs VK XK WX PE PT PA PS PSs PG PGs OpR RelV CallR Sp FnOk atI)
section
variable {X : Cx} {c : Fr} {W : WX} {p p1 p2 : Bool} {M M' M2 : Addr → Prop} {T T' as as1 as2 : List Addr} {σ : L2.St} {H H' H2 : Hp} {ρ ρ' ρ2 : Rho}
/-- owned by nobody from here on, changed by nobody -/
def frzE (f : ES) : ES := fun ρ K E => f ρ (fun x ρ' => match x with
  | .m s => (match frSl s with
    | some d => K (.v d) ρ'
    | none => False)
  | .v d => K (.v d) ρ'
  | _ => False) E
theorem ej_frz {e : Expr} {f : ES} (h : EJ X c W p e f) : EJ X c W p e (frzE f) := by
  refine ⟨fun ρ K K' E E' hk he q => h.mono _ _ _ _ _ (fun x ρ' q => ?_) he q, PE.imp h.run ?_⟩
  · split at q
    · split at q
      · exact hk _ _ q
      · exact q
    · exact hk _ _ q
    · exact q
  · rintro σ H Q ⟨ρ, M, T, s, k⟩
    refine ⟨ρ, M, T, s, h.mono _ _ _ _ _ (fun x ρ' k v H' M' as q r => ?_) (fun _ _ z => z) k⟩
    split at k
    · rename_i s'
      cases r with
      | m r =>
        cases e : frSl s' with
        | none => rw [e] at k; exact k.elim
        | some d =>
          rw [e] at k
          obtain ⟨q2, r2⟩ := q.frz r e
          exact k v H' _ [] q2 (.v r2)
    · cases r with
      | v r => exact k v H' M' [] q (.v r)
    · exact k.elim
/-! is True, is False -/
def isTB : EV → Option Bool
  | .v (.bl b) => some b
  | .m (.v (.bl b)) => some b
  | _ => none
def isTR : BR := fun x y K _ ρ => match y with
  | .v (.bl b) => K (.v (.bl (isTB x == some b))) ρ
  | _ => False
/-! all of a list of bools -/
def blsD : List D → Option (List Bool)
  | [] => some []
  | .bl b :: ds => (blsD ds).map (b :: ·)
  | _ :: _ => none
def allC : CR := fun xs K _ ρ => match xs with
  | [x] => (match (asL x).bind blsD with
    | some bs => K (.v (.bl (bs.all id))) ρ
    | none => False)
  | _ => False
end
end VS
set_option Elab.async false
set_option linter.all false
set_option maxRecDepth 100000
set_option maxHeartbeats 4000000
/-! VS14: how a def's semantics is computed: simp set; promises. Own work. -/
namespace VS
open PySem PySem.Spec PyProof.Rows
open L2 (V Hp Cx WX)
theorem at0 {α : Type} {x : α} {xs : List α} : L2.atI (x :: xs) 0 = some x := by simp [L2.atI, L2.ixN]; try (rw [if_pos (by omega)]; rfl)
theorem at1 {α : Type} {x y : α} {xs : List α} : L2.atI (x :: y :: xs) 1 = some y := by simp [L2.atI, L2.ixN]; try (rw [if_pos (by omega)]; rfl)
theorem at2 {α : Type} {x y z : α} {xs : List α} : L2.atI (x :: y :: z :: xs) 2 = some z := by simp [L2.atI, L2.ixN]; try (rw [if_pos (by omega)]; rfl)
theorem at3 {α : Type} {x y z u : α} {xs : List α} : L2.atI (x :: y :: z :: u :: xs) 3 = some u := by simp [L2.atI, L2.ixN]; try (rw [if_pos (by omega)]; rfl)
/-! eqD by its cases alone: unfolded at a symbol the kernel refuses it -/
theorem eqD_nn : eqD .non .non = true := by simp [eqD]
theorem eqD_bb {a b : Bool} : eqD (.bl a) (.bl b) = (a == b) := by simp [eqD]
theorem eqD_ii {i j : Int} : eqD (.int i) (.int j) = (i == j) := by simp [eqD]
theorem eqD_ss {a b : Str} : eqD (.str a) (.str b) = (a == b) := by simp [eqD]
theorem eqD_tt {a b : List D} : eqD (.tup a) (.tup b) = eqDs a b := by simp [eqD]
theorem eqD_ll {s t : Bool} {a b : List D} : eqD (.lst s a) (.lst t b) = eqDs a b := by simp [eqD]
theorem eqD_bi {b : Bool} {i : Int} : eqD (.bl b) (.int i) = ((if b then 1 else 0) == i) := by simp [eqD]
theorem eqD_ib {b : Bool} {i : Int} : eqD (.int i) (.bl b) = (i == (if b then 1 else 0)) := by simp [eqD]
theorem eqD_nt {a : List D} : eqD .non (.tup a) = false := by simp [eqD]
theorem eqD_tn {a : List D} : eqD (.tup a) .non = false := by simp [eqD]
theorem eqD_it {i : Int} {a : List D} : eqD (.int i) (.tup a) = false := by simp [eqD]
theorem eqD_ti {i : Int} {a : List D} : eqD (.tup a) (.int i) = false := by simp [eqD]
theorem eqD_ni {i : Int} : eqD .non (.int i) = false := by simp [eqD]
theorem eqD_in {i : Int} : eqD (.int i) .non = false := by simp [eqD]
theorem eqDs_nn : eqDs [] [] = true := by simp [eqDs]
theorem eqDs_cc {a b : D} {as bs : List D} : eqDs (a :: as) (b :: bs) = (eqD a b && eqDs as bs) := by simp [eqDs]
theorem eqDs_nc {b : D} {bs : List D} : eqDs [] (b :: bs) = false := by simp [eqDs]
theorem eqDs_cn {b : D} {bs : List D} : eqDs (b :: bs) [] = false := by simp [eqDs]
end VS
set_option Elab.async false
set_option linter.all false
set_option maxRecDepth 100000
set_option maxHeartbeats 4000000
/-! VS15: the end of a law. Own work. -/
namespace VS
open PySem PySem.Spec PyProof.Rows
open L2 (V Hp HO upd SqL SqT Rd Cx Sp FnOk)
/-- the script, ints of at most 2 ^ 20 bits -/
def F_law : FS := fun ss K _ => match ss with
  | [.v (.lst true ds)] => (∃ ns : List Int, ds = ns.map .int ∧ ns.length ≤ 63 ∧ ∀ n ∈ ns, Builtin.Int.intBits n ≤ 1048576) ∧ K (.v (.bl true)) []
  | _ => False
theorem m_law : MonoF F_law := fun ss K K' E E' hk he h => by
  unfold F_law at h ⊢
  grind
theorem reps_ints {g : Ge} {Z M : Addr → Prop} {H : Hp} : ∀ {ns : List Int}, Reps g Z M H (ns.map V.int) (ns.map .int)
  | [] => .nil
  | _ :: _ => .cons (.int _) reps_ints
theorem sp_law {g : Ge} {H : Hp} {a : Addr} {ns : List Int} (hl : ns.length ≤ 63) (hb : ∀ n ∈ ns, Builtin.Int.intBits n ≤ 1048576) (hS : SqL g.K H a (ns.map V.int)) : spV g [false] F_law [.ref a] H (fun v _ => v = .bl true) fun _ _ _ => False := by
  refine ⟨fun _ => False, [.v (.lst true (ns.map .int))], [], fun _ h => h.elim, fun _ h => absurd h (by simp), ?_, .nil, rfl, ⟨ns, rfl, hl, hb⟩, fun v H' ras ias cp rv re => ?_⟩
  · refine .cons (as := []) (bs := []) (.v (.lst ?_ reps_ints)) .nil
    rcases hS with (h | h) | h
    · exact .inl ⟨h, fun z => absurd z (by simp), fun _ z => z⟩
    · exact .inr (.inl h)
    · exact .inr (.inr h)
  · cases rv with
    | v r => cases r; rfl
theorem law_end {l : PySem.W.OpenLaw} {w : World} {K : PySem.W.Frag} {mg : Str → Option Value} {fa : Addr} {h : Heap} {k : Nat} {x : Str} {qual : Str} {st : Stmt} {f : Addr} {fd : FuncData} {dvs : List V} {kws : List (Str × V)} (hfa : mg "law" = some (.ref fa)) (h1 : mg "law" = some (.ref f)) (F : L2.FunD K "law" qual (L2.defArgs st) (L2.defBody st) (L2.defScope st) dvs kws f fd) (hb : ∀ (s : Shared) (u : Value), BindsTo s fd ⟨[u], []⟩ [(x, u)])
    (D : ∀ base : Heap, K.In base → base.Ns mainGlobals mg → Def l.prog w K mg base k "law" [x] [false] F_law) : LamX.LawAtS l w K (L2.CX l.prog w) k 63 x mg fa h := by
  have e : f = fa := by rw [hfa] at h1; cases h1; rfl
  subst e
  refine ⟨fd, [], spV ⟨K, mg⟩ [false] F_law, fun _ h => absurd h (by simp), fun _ h => absurd h (by simp), fun _ h => absurd h (by simp), hb, fun H a ns hl hbits _ hS => sp_law hl hbits hS, fun base kb nb _ => ?_⟩
  obtain ⟨f', fd', G, g1, g2, g3, oc, od, osl, lk⟩ := (D base kb nb).ex
  have e : f' = f := by rw [hfa] at g1; cases g1; rfl
  subst e
  have e2 : fd' = fd := by
    obtain ⟨oc2, od2, dV, kV, doc, pm, an, cdv, ct, osl2, hfd, lk2, _⟩ := F.ex
    rw [lk] at lk2
    cases lk2
    rfl
  subst e2
  exact G
theorem cx_end {P : Program} {w : World} {H : Hp} {s : Shared} {e : Value} {s' : Shared} (h : L2.CX P w [] H s (fun _ _ _ => False) e s') : False := by
  obtain ⟨_, _, _, _, _, _, _, _, _, _, _, _, z⟩ := h
  exact z
/-! ### facts and constants of the module -/
mutual
def gdB (K : PySem.W.Frag) : D → Value → Bool
  | .non, .none => true
  | .bl b, .bool c => b == c
  | .int i, .int j _ => decide (j = i)
  | .str s, .str z _ => decide (z = s)
  | .tup ds, .ref a => (match K.lookup a with
    | some ⟨.type c, _, .seq its _, _⟩ => decide (c = "tuple") && (decide (its.size ≤ sizeLine) && gdBs K ds its.toList)
    | _ => false)
  | _, _ => false
def gdBs (K : PySem.W.Frag) : List D → List Value → Bool
  | [], [] => true
  | d :: ds, u :: us => gdB K d u && gdBs K ds us
  | _, _ => false
end
mutual
theorem gdB_ok {g : Ge} : ∀ {d : D} {u : Value}, gdB g.K d u = true → ∃ v, L2.RelV v u ∧ ∀ Z M H, Rep g Z M H v d
  | .non, .none, _ => ⟨.non, rfl, fun _ _ _ => .non⟩
  | .bl b, .bool c, h => ⟨.bl b, by
    have : b = c := by simpa [gdB] using h
    rw [this]; rfl, fun _ _ _ => .bl b⟩
  | .int i, .int j t, h => ⟨.int i, ⟨t, by
    have : j = i := by simpa [gdB] using h
    rw [this]⟩, fun _ _ _ => .int i⟩
  | .str s, .str z t, h => ⟨.str s, ⟨t, by
    have : z = s := by simpa [gdB] using h
    rw [this]⟩, fun _ _ _ => .str s⟩
  | .tup ds, .ref a, h => by
    unfold gdB at h
    split at h
    · rename_i c od its n osl e
      rw [Bool.and_eq_true, Bool.and_eq_true] at h
      obtain ⟨h1, h2, h3⟩ := h
      obtain ⟨vs, r1, r2⟩ := gdBs_ok (g := g) h3
      exact ⟨.ref a, rfl, fun Z M H => .tup (.inr ⟨_, its, n, e, congrArg Value.type (of_decide_eq_true h1), rfl, of_decide_eq_true h2, r1⟩) (r2 Z M H)⟩
    · cases h
theorem gdBs_ok {g : Ge} : ∀ {ds : List D} {us : List Value}, gdBs g.K ds us = true → ∃ vs, L2.Vals vs us ∧ ∀ Z M H, Reps g Z M H vs ds
  | [], [], _ => ⟨[], .nil, fun _ _ _ => .nil⟩
  | d :: ds, u :: us, h => by
    unfold gdBs at h
    rw [Bool.and_eq_true] at h
    obtain ⟨v, r1, r2⟩ := gdB_ok (g := g) h.1
    obtain ⟨vs, r3, r4⟩ := gdBs_ok (g := g) h.2
    exact ⟨v :: vs, .cons r1 r3, fun Z M H => .cons (r2 Z M H) (r4 Z M H)⟩
end
def gdG (K : PySem.W.Frag) (p : Str × D) : Bool := match PySem.W.nsIn K mainGlobals p.1 with
  | some (some u) => gdB K p.2 u
  | _ => false
theorem gdG_ok {K : PySem.W.Frag} {h : Heap} {mg : Str → Option Value} (X : K.In h) (G : h.Ns mainGlobals mg) {p : Str × D} (c : gdG K p = true) : GD K mg p.1 p.2 := by
  unfold gdG at c
  split at c
  · rename_i u e
    obtain ⟨v, r1, r2⟩ := gdB_ok (g := ⟨K, mg⟩) c
    exact ⟨v, u, PySem.W.mg_of X G e, r1, r2⟩
  · cases c
def SaysC' (fa : List He.Fa) (fn : List He.DefD) (gs : List (Str × D)) (K : PySem.W.Frag) : Prop := He.SaysD fa fn K ∧ gs.all (gdG K) = true
theorem SaysC'.gd {fa : List He.Fa} {fn : List He.DefD} {gs : List (Str × D)} {K : PySem.W.Frag} {h : Heap} {mg : Str → Option Value} (c : SaysC' fa fn gs K) (X : K.In h) (G : h.Ns mainGlobals mg) {p : Str × D} (hp : p ∈ gs) : GD K mg p.1 p.2 :=
  gdG_ok X G (List.all_eq_true.mp c.2 p hp)
/-- the script's ints are small enough -/
theorem bits_si {n : Int} {m : Nat} (h : Builtin.Int.intBits n ≤ m) : n.natAbs < 2 ^ m := by
  unfold Builtin.Int.intBits at h
  by_cases e : n.natAbs = 0
  · rw [e]; exact Nat.two_pow_pos _
  · have hz : (n == 0) = false := by simp; omega
    rw [hz] at h
    exact (Nat.log2_lt e).mp (by simp at h; omega)
end VS
set_option Elab.async false
set_option linter.all false
set_option maxRecDepth 100000
set_option maxHeartbeats 4000000
/-! VS21: facts of the module for suites. Own work. -/
namespace VS
open PySem PySem.Spec PyProof.Rows
open L2 (V Hp HO upd SqL SqT Rd Cx Sp FnOk)
theorem fm0 {α : Type} {P : α → Prop} : ∀ p ∈ ([] : List α), P p := fun _ h => absurd h (by simp)
theorem fm1 {α : Type} {P : α → Prop} {a : α} {l : List α} (h : P a) (hs : ∀ p ∈ l, P p) : ∀ p ∈ a :: l, P p := fun p hp => by
  rcases List.mem_cons.mp hp with rfl | z
  · exact h
  · exact hs p z
/-- facts: which class is of which; what a class of errors has -/
inductive Xa where
  | own (cn y : Str) (b : Bool)
  | blt (cn y : Str) (n : String) (b : Bool)
  | exc (cn : Str)
  | xf (cn f : Str)
def Xa.ok (K : PySem.W.Frag) : Xa → Bool
  | .own cn y b => decide (PySem.W.kitOne K (.ref (He.ga K cn)) (.ref (He.ga K y)) = some b)
  | .blt cn y n b => decide (bootBuiltins y = some (.type n)) && (decide (y ≠ "__name__") && decide (PySem.W.kitOne K (.ref (He.ga K cn)) (.type n) = some b))
  | .exc cn => decide (PySem.W.findIn K (.ref (He.ga K cn)) "__getattribute__" = some (some (.builtin "BaseException.__getattribute__"))) && (decide (PySem.W.findIn K (.ref (He.ga K cn)) "__getattr__" = some none) && (decide (PySem.W.subIn K (.ref (He.ga K cn)) (.type "BaseException") = some true) && (PySem.W.hasDictIn K (He.ga K cn) && (decide (PySem.W.findIn K (.ref (He.ga K cn)) "__class__" = some (some (.builtin "object.__class__"))) && (decide (PySem.W.specialIn K (.builtin "object.__class__") "__get__" = some (some (.builtin "getset_descriptor.__get__"))) && (decide (PySem.W.takesIn K (.builtin "object.__class__") = some true) && decide (PySem.W.mroIn K (He.ga K cn) (.type "object") = some true)))))))
  | .xf cn f => decide (PySem.W.findIn K (.ref (He.ga K cn)) f = some none)
theorem Xa.exc_ok {K : PySem.W.Frag} {cn : Str} (h : Xa.ok K (.exc cn) = true) : L2.ExcC K (He.ga K cn) := by
  unfold Xa.ok at h
  simp only [Bool.and_eq_true, decide_eq_true_eq] at h
  obtain ⟨h1, h2, h3, h4, h5, h6, h7, h8⟩ := h
  exact ⟨h1, h2, h3, h4, h5, h6, h7, h8⟩
section
variable {K : PySem.W.Frag} {mg : Str → Option Value}
theorem kn_own {cn y : Str} {b : Bool} (gC : mg cn = some (.ref (He.ga K cn))) (gY : mg y = some (.ref (He.ga K y))) (hx : Xa.ok K (.exc cn) = true) (h : Xa.ok K (.own cn y b) = true) : KN K mg cn y b :=
  ⟨_, _, _, gC, Xa.exc_ok hx, .inl ⟨_, gY, rfl, rfl⟩, of_decide_eq_true h⟩
theorem kn_blt {cn y : Str} {n : String} {b : Bool} (gC : mg cn = some (.ref (He.ga K cn))) (gY : mg y = none) (hx : Xa.ok K (.exc cn) = true) (h : Xa.ok K (.blt cn y n b) = true) : KN K mg cn y b := by
  unfold Xa.ok at h
  simp only [Bool.and_eq_true, decide_eq_true_eq] at h
  obtain ⟨h1, h2, h3⟩ := h
  exact ⟨_, _, _, gC, Xa.exc_ok hx, .inr ⟨gY, n, h1, h2, rfl, rfl⟩, h3⟩
theorem xm_of {cn y : Str} {b : Bool} (gC : mg cn = some (.ref (He.ga K cn))) (gY : mg y = some (.ref (He.ga K y))) (h : (He.Fa.exm cn y b).ok K = true) : XM K mg cn y b := ⟨_, _, gC, gY, He.exm_ok h⟩
theorem xfl_of {cn f : Str} (gC : mg cn = some (.ref (He.ga K cn))) (hx : Xa.ok K (.exc cn) = true) (h : Xa.ok K (.xf cn f) = true) : XFl K mg cn f := by
  have e := Xa.exc_ok hx
  exact ⟨_, gC, ⟨e.hg, e.hk, e.hs, e.hd⟩, of_decide_eq_true h⟩
end
abbrev AlX : Type := He.AlD × (Bool × Bool)
def SaysX' (fa : List He.Fa) (fn : List He.DefD) (gs : List (Str × D)) (xa : List Xa) (K : PySem.W.Frag) : Prop := SaysC' fa fn gs K ∧ xa.all (Xa.ok K) = true
theorem SaysX'.at_ {fa : List He.Fa} {fn : List He.DefD} {gs : List (Str × D)} {xa : List Xa} {K : PySem.W.Frag} (c : SaysX' fa fn gs xa K) (i : Nat) {x : Xa} (h : xa[i]? = some x) : Xa.ok K x = true := List.all_eq_true.mp c.2 x (List.mem_of_getElem? h)
end VS
set_option Elab.async false
set_option linter.all false
set_option maxRecDepth 100000
set_option maxHeartbeats 4000000
/-! VS22: a, b = a tuple or a list. Own work. -/
namespace VS
open PySem PySem.Spec PyProof.Rows
open L2 (V Hp HO upd SqL SqT Rd Cx TE TT TA TS TG TGs VK XK WX PE PT PA PS PSs PG PGs OpR RelV CallR Sp FnOk atI)
section
variable {X : Cx} {c : Fr} {W : WX} {p p1 p2 : Bool} {M M' M2 : Addr → Prop} {T T' as as1 as2 : List Addr} {σ : L2.St} {H H' H2 : Hp} {ρ ρ' ρ2 : Rho}
def gU (n : Nat) (g : GSs) : GS := fun s ρ K => match s with
  | .v (.lst _ ds) => ds.length = n ∧ g (ds.map .v) ρ K
  | .l ds => ds.length = n ∧ g (ds.map .v) ρ K
  | s => gT n g s ρ K
end
/-! sizes of a fraction's parts -/
end VS
set_option Elab.async false
set_option linter.all false
set_option maxRecDepth 100000
set_option maxHeartbeats 4000000
/-! VS23: raise of a class whose __init__ keeps fields. Own work. -/
namespace VS
open PySem PySem.Spec PyProof.Rows
open L2 (V Hp HO upd SqL SqT Rd Cx TE TT TA TS TG TGs VK XK WX PE PT PA PS PSs PG PGs OpR RelV CallR Sp FnOk atI)
/-- a method's text: the j-th of the class that stands at a place -/
def methS (c : Stmt) (j : Nat) : Stmt := match c with
  | .ClassDef _ _ _ b _ _ _ _ _ _ p => b.getD j (.Pass p)
  | s => s
/-- the base class whose __init__ is ValueError's -/
structure KBase (K : PySem.W.Frag) (mg : Str → Option Value) (y : Str) : Prop where
  ex : ∃ D, mg y = some (.ref D) ∧ PySem.W.readsIn K D (.type "type") = true ∧ PySem.W.specialIn K (.ref D) "__getattribute__" = some (some (.builtin "type.__getattribute__")) ∧ PySem.W.findCls K (.ref D) (.type "type") "__init__" = some (.val (.builtin "ValueError.__init__"))
theorem pe_kinit {X : Cx} {y : Str} {q1 q2 pos : Pos} {e : Expr} {es : List Expr} {ta : TA} {pl : Sem Bool} (kb : KBase X.K X.mg y) (hy : L2.Gl X y) (ha : PA X (e :: es) ta)
    (hcall : eval (.Call (.Attribute (.Name y q1) "__init__" q2) (e :: es) [] pos) X.env = (do
      let r ← eval (.Name y q1) X.env
      standAt q2.atName
      let (g, pre) ← holding [r] (getMethod r "__init__" pl)
      callWith pos g pre (backTo pos (starEach (e :: es) X.env)) (backToKw pos (keywordEach [] X.env))) := by rfl)
    (hst : starEach (e :: es) X.env = (false, eval e X.env) :: starEach es X.env := by rfl) (hno : (backTo pos (starEach es X.env)).any (·.1) = false := by rfl) (hdb : (y == ("__debug__" : Str)) = false := by decide) :
    PE X (.Call (.Attribute (.Name y q1) "__init__" q2) (e :: es) [] pos) (L2.tVeI X.K ta) := by
  obtain ⟨D, gD, rd, ga, fc⟩ := kb.ex
  constructor
  intro pins s σ H Q I h
  apply PySem.W.methodCall_KW (L2.ld_glob I hy gD ?_ hdb) hcall
  apply PySem.W.method_cls I.kIn ga
  apply PySem.W.cls_value I.kIn rd fc rfl
  have I0 := I.tok (s.toks + 1)
  show wpAny _ _ (callWith pos (Value.builtin "ValueError.__init__") [] _ []) _ _ _
  apply PyProof.Rows.callWith_method1 ?_ hst hno
  apply L2.thn (ha.run pos pins _ σ H _ I0 h)
  rintro us s1 ⟨vs, H1, I1, r1, a, C, ws, ev, hl, T, ea, q⟩
  subst ev
  cases r1 with
  | cons ra rw' =>
    cases ra
    have hlen : ws.length = _ := Paired.length rw'
    exact L2.oinit_ok T I1 ea (by rw [← hlen, sizeLine_eq]; omega) fun s' J => ⟨.non, H1, J, rfl, q⟩
/-- what an __init__ does that keeps fl -/
def iniSp (C : Addr) (fl : List Str) : Sp := fun vs H Q _ => ∃ a ys, vs = V.ref a :: ys ∧ ys.length = fl.length ∧ H a = some (L2.exo a C none) ∧ ∀ dx, H dx = none → dx ≠ a → Q .non (upd (upd H dx (L2.exd dx (fl.zip ys).reverse)) a (L2.exo a C (some dx)))
/-- a class of errors that keeps fl -/
structure XIni (P : Program) (w : World) (K : PySem.W.Frag) (mg : Str → Option Value) (base : Heap) (k : Nat) (cn : Str) (fl : List Str) : Prop where
  ex : ∃ C fI fd ps, mg cn = some (.ref C) ∧ L2.OexC K C ∧ PySem.W.findIn K (.ref C) "__init__" = some (some (.ref fI)) ∧ PySem.W.typeIn K (.ref fI) = some (.type "function") ∧ FnOk P w K mg base (L2.CX P w) k fI fd ps (iniSp C fl) ∧ L2.Binds K fd ps []
def raiseIS (cn : Str) (fl : List Str) (g : AS) : SS := fun ρ k => g ρ (fun xs ρ' => match allV xs with
  | some ds => (ds.length = fl.length ∧ ds.length ≤ 100) ∧ k.ex ⟨cn, fl.reverse, ds.reverse⟩ ρ'
  | none => False) k.ex
section
variable {X : Cx} {c : Fr} {W : WX} {p : Bool}
theorem raiseIS_mono {cn : Str} {fl : List Str} {g : AS} (hg : MonoA g) : MonoS (raiseIS cn fl g) := fun ρ k k' l h => hg _ _ _ _ _ (fun xs ρ' q => by
  split at q
  · exact ⟨q.1, l.2.2.1 _ _ q.2⟩
  · exact q) (fun _ _ => l.2.2.1 _ _) h
theorem Reps.rev {g : Ge} {Z M : Addr → Prop} {H : Hp} : ∀ {vs : List V} {ds : List D}, Reps g Z M H vs ds → Reps g Z M H vs.reverse ds.reverse
  | _, _, .nil => .nil
  | _, _, .cons r rs => by
    rw [List.reverse_cons, List.reverse_cons]
    exact rs.rev.append (.cons r .nil)
theorem zip_fst : ∀ {fl : List Str} {vs : List V}, vs.length = fl.length → (fl.zip vs).map (·.1) = fl
  | [], [], _ => rfl
  | [], _ :: _, h => by simp at h
  | _ :: _, [], h => by simp at h
  | f :: fl, v :: vs, h => by rw [List.zip_cons_cons, List.map_cons, zip_fst (by simpa using h)]
theorem zip_snd : ∀ {fl : List Str} {vs : List V}, vs.length = fl.length → (fl.zip vs).map (·.2) = vs
  | [], [], _ => rfl
  | [], _ :: _, h => by simp at h
  | _ :: _, [], h => by simp at h
  | f :: fl, v :: vs, h => by rw [List.zip_cons_cons, List.map_cons, zip_snd (by simpa using h)]
theorem sj_raiseI {cn : Str} {fl : List Str} {j k : Nat} {e : Expr} {es : List Expr} {g : AS} {pp pos pos' : Pos} (hK : X.K = c.g.K) (hmg : X.mg = c.g.mg) (hc : X.calm = true) (hr : L2.Room k X.A) (hjk : j + 1 ≤ k) (tk : L2.Takes X W) (xi : XIni X.prog X.w c.g.K c.g.mg X.base j cn fl) (hx : L2.Passes (L2.CX X.prog X.w) X (fun _ _ _ => False)) (hg : L2.Gl X cn) (ha : AJ X c W p (e :: es) g)
    (hdb : (cn == ("__debug__" : Str)) = false := by decide) (he : starEach (e :: es) X.env = (false, eval e X.env) :: starEach es X.env := by rfl) (hpl : (backTo pos (starEach es X.env)).any (·.1) = false := by rfl) :
    SJ X c W (.Raise (some (.Call (.Name cn pp) (e :: es) [] pos)) none pos') (raiseIS cn fl g) := by
  obtain ⟨C, fI, fd, ps, gC, T, iC, tI, G, hb⟩ := xi.ex
  have T' : L2.OexC X.K C := by rw [hK]; exact T
  refine ⟨raiseIS_mono ha.mono, PS.imp (L2.ps_raise hc tk (L2.pmk_oex (dvs := []) (ds := []) (k := j) (CX := L2.CX X.prog X.w) T' (by rw [hK]; exact iC) (by rw [hK]; exact tI) (by rw [hK, hmg]; exact G) (hr.mono hjk) (by rw [hK]; exact hb) .nil hx hg (by rw [hmg]; exact gC) ha.run hdb he hpl)) ?_⟩
  rintro De σ H ⟨ρ, M, T0, s, q⟩
  refine ⟨ρ, M, T0, s, ha.mono _ _ _ _ _ (fun xs ρ' q vs H' M' as q1 r1 => ?_) (fun x ρ' q => exc_le x ρ' q) q⟩
  split at q
  · rename_i ds eds
    obtain ⟨rs, e0⟩ := r1.allV eds
    subst e0
    have hlv : vs.length = fl.length := rs.length.trans q.1.1
    have hds : ds.length = vs.length := rs.length.symm
    have h100 := q.1.2
    refine ⟨by omega, fun a ha0 => ⟨a, vs ++ [], rfl, by simpa using hlv, L2.upd_same, fun dx hdx ne => ⟨rfl, dx, (fl.zip vs).reverse, L2.upd_same, ?_, ?_, ?_⟩⟩⟩
    · rw [L2.upd_ne ne, L2.upd_same, List.append_nil]
    · rw [L2.upd_ne ne] at hdx
      exact hdx
    · rw [L2.upd_ne ne] at hdx
      have eH : upd (L2.del (upd (upd (upd H' a (L2.exo a C none)) dx (L2.exd dx (fl.zip (vs ++ [])).reverse)) a (L2.exo a C (some dx))) a) dx (.xd (fl.zip vs).reverse) = upd H' dx (.xd (fl.zip vs).reverse) := by
        funext b
        by_cases hb : b = dx
        · rw [hb, L2.upd_same, L2.upd_same]
        · rw [L2.upd_ne hb, L2.upd_ne hb]
          by_cases hba : b = a
          · rw [hba, L2.del_same, ha0]
          · rw [L2.del_ne hba, L2.upd_ne hba, L2.upd_ne hb, L2.upd_ne hba]
      rw [eH]
      have x : Ext H' (upd H' dx (.xd (fl.zip vs).reverse)) := Ext.new hdx
      refine q.2 σ _ _ _ M' (q1.weak.ext x) (.yes gC L2.upd_same ?_ ?_ (rs.ext x).rev)
      · rw [List.map_reverse, zip_fst hlv]
      · rw [List.map_reverse, zip_snd hlv]
  · exact q.elim
end
end VS
set_option Elab.async false
set_option linter.all false
set_option maxRecDepth 100000
set_option maxHeartbeats 4000000
/-! VS24: an __init__ that keeps one, two or three fields; facts of such classes. Own work. -/
namespace VS
open PySem PySem.Spec PyProof.Rows
open L2 (V Hp HO upd SqL SqT Rd Cx TE TT TA TS TG TGs VK XK WX PE PT PA PS PSs PG PGs OpR RelV CallR Sp FnOk atI)
abbrev tIni0 (K : PySem.W.Frag) (m : Str) : TS := L2.tDrop (L2.tVeI K (L2.tCons (L2.tVar 0) (L2.tCons (L2.tC (.str m)) L2.tNil)))
abbrev tIni1 (K : PySem.W.Frag) (m f1 : Str) : TS := L2.tSeq (tIni0 K m) (L2.tOst K f1 (L2.tVar 0) (L2.tVar 1))
section
variable {P : Program} {w : World} {K : PySem.W.Frag} {mg : Str → Option Value} {base : Heap} {cn qual m f1 f2 f3 p1 p2 p3 : Str} {st : Stmt} {C fI : Addr} {fd : FuncData} {kws : List (Str × V)} {dvs : List V}
theorem xini1 (gC : mg cn = some (.ref C)) (T : L2.OexC K C) (iC : PySem.W.findIn K (.ref C) "__init__" = some (some (.ref fI))) (tI : PySem.W.typeIn K (.ref fI) = some (.type "function"))
    (F : L2.FunD K "__init__" qual (L2.defArgs st) (L2.defBody st) (L2.defScope st) dvs kws fI fd) (hbd : L2.Binds K fd ["self", p1] []) (S : L2.FnScope ["self", p1] ["self", p1] (L2.defScope st)) (n1 : PySem.W.findIn K (.ref C) f1 = some none)
    (hb : ∀ (cdv : Value) (A : Around) (outer : List Env) (s : Shared) (H : Hp) (E : XK), PSs (L2.cxOf (L2.CX P w) P w K mg base ["self", p1] qual (L2.defScope st) fI cdv A outer s H E) (L2.defBody st) (tIni1 K m f1)) : XIni P w K mg base 1 cn [f1] := by
  refine ⟨C, fI, fd, ["self", p1], gC, T, iC, tI, F.ok (CX := L2.CX P w) S (fun vs H Q E ⟨a, ys, e, l, _⟩ => by rw [e, List.length_cons, l]; rfl) fun cdv A outer s H vs Q E hr hsp => ⟨_, hb cdv A outer s H E, ?_⟩, hbd⟩
  obtain ⟨a, ys, rfl, hl, ea, go⟩ := hsp
  match ys, hl with
  | [y1], _ => exact ⟨.ref a, rfl, a, C, [.str m], rfl, by simp, T, ea, y1, rfl, .ref a, rfl, a, C, rfl, T, n1, .inl ⟨ea, fun dx hd ne => go dx hd ne⟩⟩
end
/-- facts of a class with such an __init__, of the base -/
inductive Xb where
  | oex (cn : Str)
  | kbs (y : Str)
  | sup (cn m : Str)
def oexB (K : PySem.W.Frag) (C : Addr) : Bool := match K.lookup C with
  | some ⟨.type t, _, .cls cd, sl⟩ => decide (t = "type") && ((match cd.mro, sl.toList with
    | .ref C' :: bm, [_, _, _, _, some (.builtin n), _] => decide (C' = C) && (decide (n = "ValueError.__new__") && PySem.HandSPX.refsVE bm)
    | _, _ => false) && (cd.hasDict && !cd.hasDel))
  | _ => false
def Xb.ok (K : PySem.W.Frag) : Xb → Bool
  | .oex cn => oexB K (He.ga K cn) && (decide (PySem.W.findIn K (.ref (He.ga K cn)) "__setattr__" = some (some (.builtin "object.__setattr__"))) && (decide (PySem.W.subIn K (.ref (He.ga K cn)) (.type "BaseException") = some true) && (decide (PySem.W.typeIn K (.ref (He.ga K cn)) = some (.type "type")) && (PySem.W.keepIn K (.ref (He.ga K cn)) &&
      (decide (PySem.W.findIn K (.ref (He.ga K cn)) "__init__" = some (some (.ref (He.ma K (He.ga K cn) "__init__")))) && decide (PySem.W.typeIn K (.ref (He.ma K (He.ga K cn) "__init__")) = some (.type "function")))))))
  | .kbs y => PySem.W.readsIn K (He.ga K y) (.type "type") && (decide (PySem.W.specialIn K (.ref (He.ga K y)) "__getattribute__" = some (some (.builtin "type.__getattribute__"))) && (match PySem.W.findCls K (.ref (He.ga K y)) (.type "type") "__init__" with
    | some (.val v) => decide (v = .builtin "ValueError.__init__")
    | _ => false))
  | .sup y m => PySem.W.readsIn K (He.ga K y) (.type "type") && (decide (PySem.W.specialIn K (.ref (He.ga K y)) "__getattribute__" = some (some (.builtin "type.__getattribute__"))) && (match PySem.W.findCls K (.ref (He.ga K y)) (.type "type") m with
    | some (.val v) => decide (v = .ref (He.ma K (He.ga K y) m))
    | _ => false))
theorem oexB_ok {K : PySem.W.Frag} {C : Addr} (h : oexB K C = true) : ∃ nm q N bs bm sn sub ab col dd k0 k1 k2 k3 k5, K.lookup C = some (excClassObj nm q C N bs bm true sn sub ab col dd k0 k1 k2 k3 k5 "ValueError.__new__") ∧ PySem.HandSPX.refsVE bm = true := by
  unfold oexB at h
  split at h
  · rename_i t dd cd sl e
    rw [Bool.and_eq_true, Bool.and_eq_true] at h
    obtain ⟨h1, h2, h3⟩ := h
    split at h2
    · rename_i C' bm k0 k1 k2 k3 n k5 em es
      rw [Bool.and_eq_true, Bool.and_eq_true] at h2
      obtain ⟨g1, g2, g3⟩ := h2
      have g1 := of_decide_eq_true g1
      have g2 := of_decide_eq_true g2
      have h1 := of_decide_eq_true h1
      subst g1 g2 h1
      rw [Bool.and_eq_true] at h3
      obtain ⟨nm, bs, mro, ns, qn, hd, sn, sub, ab, col, del⟩ := cd
      dsimp only at em h3
      subst em
      have hd1 := h3.1
      have hd2 : del = false := by simpa using h3.2
      subst hd1 hd2
      have esl : sl = #[k0, k1, k2, k3, some (.builtin "ValueError.__new__"), k5] := by
        obtain ⟨l⟩ := sl
        have es' : l = _ := es
        rw [es']
      subst esl
      exact ⟨nm, qn, ns, bs, bm, sn, sub, ab, col, dd, k0, k1, k2, k3, k5, e, g3⟩
    · cases h2
  · cases h
theorem Xb.oex_ok {K : PySem.W.Frag} {cn : Str} (h : Xb.ok K (.oex cn) = true) : L2.OexC K (He.ga K cn) ∧ PySem.W.findIn K (.ref (He.ga K cn)) "__init__" = some (some (.ref (He.ma K (He.ga K cn) "__init__"))) ∧ PySem.W.typeIn K (.ref (He.ma K (He.ga K cn) "__init__")) = some (.type "function") := by
  unfold Xb.ok at h
  simp only [Bool.and_eq_true, decide_eq_true_eq] at h
  obtain ⟨h1, h2, h3, h4, h5, h6, h7⟩ := h
  exact ⟨⟨oexB_ok h1, h2, h3, h4, h5⟩, h6, h7⟩
theorem kbase_of {K : PySem.W.Frag} {mg : Str → Option Value} {y : Str} (gY : mg y = some (.ref (He.ga K y))) (h : Xb.ok K (.kbs y) = true) : KBase K mg y := by
  unfold Xb.ok at h
  simp only [Bool.and_eq_true, decide_eq_true_eq] at h
  obtain ⟨h1, h2, h3⟩ := h
  refine ⟨_, gY, h1, h2, ?_⟩
  split at h3
  · rename_i v e
    rw [e, of_decide_eq_true h3]
  · cases h3
abbrev AlY : Type := AlX × Bool
/-- what is looked at: the module's, and where the statics stand -/
def asY (g : Addr → Option Obj) (n : Nat) : List Addr := cStatics :: He.asD g n
def obsY (n : Nat) (fa : List He.Fa) (fn : List He.DefD) (gs : List (Str × D)) (xa : List Xa) (xb : List Xb) (g : Addr → Option Obj) : AlY :=
  ((He.obsD fa fn (He.frG g (asY g n)), gs.all (gdG (He.frG g (asY g n))), xa.all (Xa.ok (He.frG g (asY g n)))), xb.all (Xb.ok (He.frG g (asY g n))))
def SaysY' (fa : List He.Fa) (fn : List He.DefD) (gs : List (Str × D)) (xa : List Xa) (xb : List Xb) (K : PySem.W.Frag) : Prop := SaysX' fa fn gs xa K ∧ xb.all (Xb.ok K) = true
def hookY (n : Nat) (fa : List He.Fa) (fn : List He.DefD) (gs : List (Str × D)) (xa : List Xa) (xb : List Xb) : PySem.W.Hook where
  α := AlY
  obs := fun s => obsY n fa fn gs xa xb s.heap.get?
  val := fun _ => ((He.valD fn, true, true), true)
  says := fun _ h => ∃ K : PySem.W.Frag, K.In h ∧ SaysY' fa fn gs xa xb K
  of := fun _ _ e => ⟨_, He.frG_in, ⟨⟨congrArg (fun z : AlY => z.1.1) e, congrArg (fun z : AlY => z.1.2.1) e⟩, congrArg (fun z : AlY => z.1.2.2) e⟩, congrArg (fun z : AlY => z.2) e⟩
  keeps := fun _ _ _ ⟨K, hK, c⟩ k => ⟨K, PySem.W.Frag.In.keeps hK k, c⟩
theorem obsY_eq {n : Nat} {fa : List He.Fa} {fn : List He.DefD} {gs : List (Str × D)} {xa : List Xa} {xb : List Xb} {g : Addr → Option Obj} {s : Shared} (h : ∀ a, g a = s.heap.get? a) : obsY n fa fn gs xa xb g = (hookY n fa fn gs xa xb).obs s := by
  have e : g = s.heap.get? := funext h
  rw [e] <;> rfl
theorem SaysY'.bt {fa : List He.Fa} {fn : List He.DefD} {gs : List (Str × D)} {xa : List Xa} {xb : List Xb} {K : PySem.W.Frag} (c : SaysY' fa fn gs xa xb K) (i : Nat) {x : Xb} (h : xb[i]? = some x) : Xb.ok K x = true := List.all_eq_true.mp c.2 x (List.mem_of_getElem? h)
/-- no exception comes out of an __init__ -/
theorem passes0 {X : Cx} : L2.Passes (L2.CX X.prog X.w) X (fun _ _ _ => False) := fun _ _ _ _ _ _ _ h => by
  obtain ⟨_, _, _, _, _, _, _, _, _, _, _, _, z⟩ := h
  exact z.elim
end VS
set_option Elab.async false
set_option linter.all false
set_option maxRecDepth 100000
set_option maxHeartbeats 4000000
/-! VS25: list(range(..)), dict displays, slices, sorted ints, int of a bool. Own work. -/
namespace VS
open PySem PySem.Spec PyProof.Rows
open L2 (V Hp HO upd SqL SqT Rd Cx TE TT TA TS TG TGs VK XK WX PE PT PA PS PSs PG PGs OpR RelV CallR Sp FnOk atI)
section
variable {X : Cx} {c : Fr} {W : WX} {p p1 p2 p3 : Bool} {M M' M2 : Addr → Prop} {T T' as as1 as2 : List Addr} {σ : L2.St} {H H' H2 : Hp} {ρ ρ' ρ2 : Rho} {f g h : ES} {pos : Pos}
/-- list(range(n)) -/
def lrE (f : ES) : ES := fun ρ K E => f ρ (fun x ρ' => match x with
  | .v (.int n) => (n ≤ 100000 ∧ -100000 ≤ n) ∧ K (.m (.l (rngD 0 n.toNat))) ρ'
  | _ => False) E
theorem ej_d1 {k : Str} {i : Int} {j j2 q1 q2} : EJ X c W true (.Dict [some (.Constant (.str k) j q1)] [.Constant (.int i) j2 q2] pos) (cE (.dct [.inr k] [.int i])) := by
  refine ⟨fun ρ K K' E E' hk _ h => hk _ _ h, PE.imp (L2.pe_disp (L2.pps_cons L2.pe_str L2.pe_int L2.pps_nil) rfl rfl (by simp) (by simp)) ?_⟩
  rintro σ H Q ⟨ρ, M, T, s, h⟩ q hq
  refine ⟨L2.upd_same, [(.inr k, .int i)], rfl, by simp, ?_⟩
  have e2 : upd (upd H q (.dK [])) q (.dK (L2.mergeK [] [(.inr k, .int i)])) = upd H q (.dK [(.inr k, .int i)]) := by
    funext b
    by_cases hb : b = q
    · rw [hb, L2.upd_same, L2.upd_same]; rfl
    · rw [L2.upd_ne hb, L2.upd_ne hb, L2.upd_ne hb]
  rw [e2]
  exact h _ _ M [] ((Post.same s).ext (Ext.new hq)) (.v (.dct L2.upd_same rfl rfl (.cons (.int i) .nil)))
/-! sorted ints -/
def intsD : List D → Option (List Int)
  | [] => some []
  | .int i :: ds => (intsD ds).map (i :: ·)
  | _ :: _ => none
def sortC : CR := fun xs K _ ρ => match xs with
  | [x] => (match (asL x).bind intsD with
    | some is => ∀ js : List Int, js.Perm is → js.Pairwise (· ≤ ·) → K (.m (.l (js.map .int))) ρ
    | none => False)
  | _ => False
/-- int(a truth or an int) -/
def intC : CR := fun xs K _ ρ => match xs with
  | [.v (.bl b)] => K (.v (.int (if b then 1 else 0))) ρ
  | [.v (.int i)] => K (.v (.int i)) ρ
  | _ => False
theorem intC_mono : MonoC intC := fun xs ρ K K' E E' hk _ h => by
  unfold intC at h ⊢
  split at h
  · exact hk _ _ h
  · exact hk _ _ h
  · exact h
theorem intC_says : SaysC c (fun xs H Q => (∃ i, xs = [.int i] ∧ Q (.int i) H) ∨ ∃ k, xs = [.bl k] ∧ Q (.int (if k then 1 else 0)) H) intC := by
  intro p σ M T H M2 H2 ρ2 as vs xs Q E q r h
  unfold intC at h
  split at h
  · obtain ⟨v, rfl, r1⟩ := r.one
    exact .inr ⟨_, by rw [r1.bl], h _ H2 M2 [] q.drop (.v (.int _))⟩
  · obtain ⟨v, rfl, r1⟩ := r.one
    exact .inl ⟨_, by rw [r1.int], h _ H2 M2 [] q.drop (.v (.int _))⟩
  · exact h.elim
/-! slices of lists -/
abbrev OS := Rho → (Option Int → Rho → Prop) → (Exc → Rho → Prop) → Prop
def cutD (ds : List D) (lo hi : Option Int) : List D := (ds.drop (HT.sIx ds.length 0 lo)).take (HT.sIx ds.length ds.length hi - HT.sIx ds.length 0 lo)
theorem Reps.cut {g : Ge} {Z : Addr → Prop} {vs : List V} {ds : List D} (r : Reps g Z M H vs ds) (lo hi : Option Int) : Reps g Z M H (L2.cutV vs lo hi) (cutD ds lo hi) := by
  unfold L2.cutV cutD
  rw [r.length]
  exact (r.drop _).take _
def intO (p : Bool) (f : Option ES) : OS := match f with
  | none => fun ρ K _ => K none ρ
  | some f => fun ρ K E => f ρ (fun x ρ' => match x with
    | .v (.int i) => K (some i) ρ'
    | _ => False) E
/-- a part of a slice that changes nothing -/
structure OJ (X : Cx) (c : Fr) (W : WX) (e : Option Expr) (f : Option ES) : Prop where
  ex : (e = none ∧ f = none) ∨ ∃ a g, e = some a ∧ f = some g ∧ EJ X c W true a g
theorem oj_none : OJ X c W none none := ⟨.inl ⟨rfl, rfl⟩⟩
theorem oj_some {a : Expr} (h : EJ X c W true a g) : OJ X c W (some a) (some g) := ⟨.inr ⟨a, g, rfl, rfl, h⟩⟩
def slE (f : ES) (g h : Option ES) : ES := fun ρ K E => f ρ (fun x ρ1 => intO true g ρ1 (fun i ρ2 => intO true h ρ2 (fun j ρ3 => match asL x with
  | some ds => K (.m (.l (cutD ds i j))) ρ3
  | none => False) E) E) E
theorem intO_mono {g : Option ES} {e : Option Expr} (hg : OJ X c W e g) {K K' : Option Int → Rho → Prop} {E E' : Exc → Rho → Prop} (hk : ∀ x ρ, K x ρ → K' x ρ) (he : ∀ x ρ, E x ρ → E' x ρ) {ρ : Rho} (q : intO true g ρ K E) : intO true g ρ K' E' := by
  rcases hg.ex with ⟨rfl, rfl⟩ | ⟨a, g, rfl, rfl, hh⟩
  · exact hk _ _ q
  · exact hh.mono _ _ _ _ _ (fun x ρ' q => by
      split at q
      · exact hk _ _ q
      · exact q) he q
theorem po_of {g : Option ES} {e : Option Expr} (hg : OJ X c W e g) : ∃ t : L2.TO, L2.PO X e t ∧ ∀ (σ : L2.St) (ρ : Rho) (M : Addr → Prop) (T : List Addr) (H : Hp) (Q : Option Int → Hp → Prop), SR c M T σ H ρ → intO true g ρ (fun i ρ' => ∀ H' M', Post c true σ M T H M' T H' ρ' → Q i H') (fun x ρ' => ∀ cls dd H' M', Post c false σ M T H M' T H' ρ' → XRep c M' H' cls dd x → W cls dd σ H') → t σ H Q := by
  rcases hg.ex with ⟨rfl, rfl⟩ | ⟨a, g, rfl, rfl, hh⟩
  · exact ⟨_, L2.po_none, fun σ ρ M T H Q s q => q H M (Post.refl s)⟩
  · refine ⟨_, L2.po_some hh.run, fun σ ρ M T H Q s q => ⟨ρ, M, T, s, hh.mono _ _ _ _ _ (fun x ρ' q v H' M' as q1 r1 => ?_) (fun _ _ z => z) q⟩⟩
    split at q
    · exact ⟨_, r1.int, q H' M' q1.drop⟩
    · exact q.elim
end
end VS
set_option Elab.async false
set_option linter.all false
set_option maxRecDepth 100000
set_option maxHeartbeats 4000000
/-! VS28: == of a dict and a tuple. Own work. -/
namespace VS
open PySem PySem.Spec PyProof.Rows PyProof.V PySem.SeqAt
open L2 (V Hp HO upd SqL SqT Rd Cx TE TT TA TS TG TGs VK XK WX PE PT PA PS PSs PG PGs OpR RelV CallR Sp FnOk atI Inv)
section
variable {X : Cx} {c : Fr} {W : WX} {p p1 p2 : Bool}
/-- == : data to be compared, or a dict and a tuple -/
def eqXR : BR := fun x y K E ρ => match asD x, asD y with
  | some (.dct _ _), some (.tup _) => K (.v (.bl false)) ρ
  | some a, some b => (cmpD a = true ∧ cmpD b = true ∧ min (depD a) (depD b) ≤ 100) ∧ K (.v (.bl (eqD a b))) ρ
  | _, _ => False
end
/-! a call that leaves the last argument to its default -/
end VS
set_option Elab.async false
set_option linter.all false
set_option maxRecDepth 100000
set_option maxHeartbeats 4000000
/-! VS29: slices of tuples and lists, tuples put together, a tuple many times. Own work. -/
namespace VS
open PySem PySem.Spec PyProof.Rows
open L2 (V Hp HO upd SqL SqT Rd Cx TE TT TA TS TG TGs VK XK WX PE PT PA PS PSs PG PGs OpR RelV CallR Sp FnOk atI)
section
variable {X : Cx} {c : Fr} {W : WX} {p p1 p2 p3 : Bool} {M M' M2 : Addr → Prop} {T T' as as1 as2 : List Addr} {σ : L2.St} {H H' H2 : Hp} {ρ ρ' ρ2 : Rho} {f g h : ES} {pos : Pos}
def rSlX (K : PySem.W.Frag) : V → Option Int → Option Int → Hp → VK → Prop := fun x lo hi H Q => L2.rSlL K x lo hi H Q ∨ L2.rSlA K x lo hi H Q
theorem sl_x : L2.SlR X (rSlX X.K) := by
  intro pins s σ H x v vl vu lo hi sl Q I rx hs pl pu h
  rcases h with h | h
  · exact L2.sl_list pins s σ H x v vl vu lo hi sl Q I rx hs pl pu h
  · exact L2.sl_tupA pins s σ H x v vl vu lo hi sl Q I rx hs pl pu h
def slX (f : ES) (g h : Option ES) : ES := fun ρ K E => f ρ (fun x ρ1 => intO true g ρ1 (fun i ρ2 => intO true h ρ2 (fun j ρ3 => match x with
  | .v (.tup ds) => K (.v (.tup (cutD ds i j))) ρ3
  | x => (match asL x with
    | some ds => K (.m (.l (cutD ds i j))) ρ3
    | none => False)) E) E) E
theorem cut_whole {vs : List V} {lo hi : Option Int} (h : HT.sIx vs.length 0 lo = 0 ∧ HT.sIx vs.length vs.length hi = vs.length) : L2.cutV vs lo hi = vs := by
  unfold L2.cutV
  rw [h.1, h.2, List.drop_zero, Nat.sub_zero, List.take_length]
theorem ej_slX {a : Expr} {lo hi : Option Expr} {f : ES} {g h : Option ES} {p2' : Pos} (hK : X.K = c.g.K) (ha : EJ X c W p a f) (hg : OJ X c W lo g) (hh : OJ X c W hi h) : EJ X c W p (.Subscript a (.Slice lo hi none p2') pos) (slX f g h) := by
  obtain ⟨tl, pl, ul⟩ := po_of hg
  obtain ⟨th, ph, uh⟩ := po_of hh
  refine ⟨fun ρ K K' E E' hk he q => ha.mono _ _ _ _ _ (fun x ρ1 q => intO_mono hg (fun i ρ2 q => intO_mono hh (fun j ρ3 q => ?_) he q) he q) he q, PE.imp (L2.pe_slice sl_x ha.run pl ph) ?_⟩
  · split at q
    · exact hk _ _ q
    · split at q
      · exact hk _ _ q
      · exact q
  · rintro σ H Q ⟨ρ, M, T, s, k⟩
    refine ⟨ρ, M, T, s, ha.mono _ _ _ _ _ (fun x ρ1 k v H1 M1 as1 q1 r1 => ?_) (fun _ _ z => z) k⟩
    have ht : ∀ z ∈ T, z ∈ as1 ++ T := fun z hz => List.mem_append_right _ hz
    refine ul σ ρ1 M1 (as1 ++ T) H1 _ q1.sr (intO_mono hg (fun i ρ2 k H2 M2 q2 => ?_) (fun x ρ2 k cls dd H2 M2 q2 r2 => k cls dd H2 M2 (q1.trans q2 ht).weak.drop r2) k)
    have q12 := q1.trans q2 ht
    rw [Bool.and_true] at q12
    have r2 := r1.next q1.sr q2 (fun a ha => List.mem_append_left _ ha) (by cases x <;> first | rfl | trivial)
    refine uh σ ρ2 M2 (as1 ++ T) H2 _ q12.sr (intO_mono hh (fun j ρ3 k H3 M3 q3 => ?_) (fun x ρ3 k cls dd H3 M3 q3 r3 => k cls dd H3 M3 (q12.trans q3 ht).weak.drop r3) k)
    have q13 := q12.trans q3 ht
    rw [Bool.and_true] at q13
    have r3 := r2.next q12.sr q3 (fun a ha => List.mem_append_left _ ha) (by cases x <;> first | rfl | trivial)
    split at k
    · rename_i ds
      refine .inr ?_
      obtain ⟨l, vs, rfl, t, rs⟩ := r3.tuple rfl
      refine ⟨l, vs, rfl, hK ▸ t, fun hw => ?_, fun _ pa hp => ?_⟩
      · have rc := rs.cut i j
        rw [cut_whole hw] at rc
        exact k _ _ M3 [] q13.drop (.v (.tup t rc))
      · exact k _ _ M3 [] (q13.drop.ext (Ext.new hp)) (.v (.tup (.inl (.inl L2.upd_same)) ((rs.cut i j).ext (Ext.new hp))))
    · refine .inl ?_
      split at k
      · rename_i ds e
        obtain ⟨l, vs, rfl, t, rs⟩ := r3.list e
        refine ⟨l, vs, rfl, hK ▸ t, fun pa hp => ?_⟩
        exact k _ _ _ [pa] (q13.drop.own hp (.inl ⟨_, L2.upd_same⟩)) (.m (.l L2.upd_same ((rs.cut i j).moved (Post.own_mv hp))))
      · exact k.elim
/-! t + u -/
def addT : BR := fun x y K _ ρ => match x, y with
  | .v (.tup a), .v (.tup b) => a.length + b.length ≤ 100000 ∧ K (.v (.tup (a ++ b))) ρ
  | _, _ => False
/-! t * n -/
def repT : BR := fun x y K _ ρ => match x, y with
  | .v (.tup a), .v (.int n) => (a ≠ [] ∧ 2 ≤ n ∧ n ≤ 1000 ∧ a.length ≤ 1000) ∧ K (.v (.tup (List.replicate n.toNat a).flatten)) ρ
  | _, _ => False
theorem Reps.rep {g : Ge} {Z : Addr → Prop} {vs : List V} {ds : List D} (r : Reps g Z M H vs ds) : ∀ n : Nat, Reps g Z M H (List.replicate n vs).flatten (List.replicate n ds).flatten
  | 0 => .nil
  | n + 1 => by
    rw [List.replicate_succ, List.replicate_succ, List.flatten_cons, List.flatten_cons]
    exact r.append (r.rep n)
end
end VS
set_option Elab.async false
set_option linter.all false
set_option maxRecDepth 100000
set_option maxHeartbeats 4000000
/-! VS30: list comprehensions whose item changes what is owned. Own work. -/
namespace VS
open PySem PySem.Spec PyProof.Rows
open L2 (V Hp HO upd SqL SqT Rd Cx TE TT TA TS TG TGs TI It VK XK WX PE PT PTs PA PS PSs PG PGs PI OpR RelV CallR Sp FnOk atI wipe)
def compDx (vs : List Nat) (g : GS) (f : ES) : Rho → List D → List D → (List D → Rho → Prop) → Prop
  | ρ, [], acc, K => K acc ρ
  | ρ, d :: ds, acc, K => g (.v d) ρ (fun ρ1 => f ρ1 (fun x ρ3 => match evD x with
      | some e => compDx vs g f (wipeR ρ3 vs) ds (acc ++ [e]) K
      | none => False) (fun _ _ => False))
def compX (vs : List Nat) (it : IS) (g : GS) (f : ES) : ES := fun ρ K E => it ρ (fun ds ρ1 => ds.length ≤ 1000000 ∧ compDx vs g f (wipeR ρ1 vs) ds [] (fun out ρ2 => K (.m (.l out)) ρ2)) E
end VS
set_option Elab.async false
set_option linter.all false
set_option maxRecDepth 100000
set_option maxHeartbeats 4000000
/-! VS31: != of lists of the same data, dicts and tuples among it. Own work. -/
namespace VS
open PySem PySem.Spec PyProof.Rows PyProof.V PySem.SeqAt
open MeetsSeq MeetsSeq2 MeetsSeq3 SeqRoads2
open L2 (V Hp HO upd SqL SqT Rd Cx TE TT TA TS TG TGs VK XK WX PE PT PA PS PSs PG PGs OpR RelV CallR Sp FnOk atI Inv)
mutual
/-- data of which the same is equal: keys all apart -/
def samD : D → Bool
  | .tup ds => samDs ds
  | .lst _ ds => samDs ds
  | .dct ks ds => decide ks.Nodup && samDs ds
  | .ty _ => false
  | .fn _ => false
  | _ => true
def samDs : List D → Bool
  | [] => true
  | d :: ds => samD d && samDs ds
end
mutual
def hgtD : D → Nat
  | .tup ds => hgtDs ds + 1
  | .lst _ ds => hgtDs ds + 1
  | .dct _ ds => hgtDs ds + 1
  | _ => 1
def hgtDs : List D → Nat
  | [] => 0
  | d :: ds => max (hgtD d) (hgtDs ds)
end
def flatD : D → Bool
  | .non => true
  | .bl _ => true
  | .int _ => true
  | .str _ => true
  | _ => false
theorem Reps.put : ∀ {g : Ge} {Z M : Addr → Prop} {H : Hp} {vs : List V} {ds : List D}, Reps g Z M H vs ds → ∀ {i : Nat} {d : D}, ds[i]? = some d → ∃ v, vs[i]? = some v ∧ Rep g Z M H v d
  | _, _, _, _, _, _, .nil, _, _, e => by simp at e
  | _, _, _, _, _, _, .cons r rs, 0, _, e => by cases e; exact ⟨_, rfl, r⟩
  | _, _, _, _, _, _, .cons r rs, i + 1, _, e => rs.put (by simpa using e)
section
variable {X : Cx} {c : Fr} {W : WX} {p p1 p2 : Bool}
/-- != of any data, the same lists and dicts that hold dicts among it -/
def neYR : BR := fun x y K E ρ => match x, y with
  | .v (.lst _ d1), .v (.lst _ d2) => ((d1 = d2 ∧ samDs d1 = true ∧ hgtDs d1 ≤ 60) ∧ K (.v (.bl false)) ρ) ∨ eqR true x y K E ρ
  | .v (.dct k1 d1), .v (.dct k2 d2) => (d1 = d2 ∧ k1 = k2 ∧ k1.Nodup ∧ ∀ d ∈ d1, flatD d = true) ∧ K (.v (.bl false)) ρ
  | x, y => eqR true x y K E ρ
end
end VS
set_option Elab.async false
set_option linter.all false
set_option maxRecDepth 100000
set_option maxHeartbeats 4000000
/-! VS32: list(reversed(a list)). Own work. -/
namespace VS
open PySem PySem.Spec PyProof.Rows PyProof.V
open L2 (V Hp HO upd SqL SqT Rd Cx TE TT TA TS TG TGs VK XK WX PE PT PA PS PSs PG PGs OpR RelV CallR Sp FnOk atI Inv)
section
variable {X : Cx} {c : Fr} {W : WX} {p : Bool} {pos pos' : Pos}
def lrevE (f : ES) : ES := fun ρ K E => f ρ (fun x ρ' => match asL x with
  | some ds => K (.m (.l ds.reverse)) ρ'
  | none => False) E
end
end VS
set_option Elab.async false
set_option linter.all false
set_option maxRecDepth 100000
set_option maxHeartbeats 4000000
/-! VS33: an owned tuple compared, and a list in it changed. Own work. -/
namespace VS
open PySem PySem.Spec PyProof.Rows
open L2 (V Hp HO upd SqL SqT Rd Cx TE TT TA TS TG TGs VK XK WX PE PT PA PS PSs PG PGs OpR RelV CallR Sp FnOk atI)
section
variable {X : Cx} {c : Fr} {W : WX} {p p1 p2 : Bool} {M M1 M' M2 : Addr → Prop} {T T' as as1 as2 : List Addr} {σ σ1 : L2.St} {H H1 H' H2 : Hp} {ρ ρ1 ρ' ρ2 : Rho}
theorem mono_bin {q : Bool} {f g : ES} {R : BR} (hf : Mono f) (hg : Mono g) (hR : MonoR R) : Mono (bin q f g R) := Mono.bin hf hg hR
def heldR (i : Nat) (ρ : Rho) : Prop := match ρ[i]? with
  | some .no => False
  | some _ => True
  | none => False
/-- name == e, name != e: what the name holds, its own or not -/
def cmpO (neg : Bool) (i : Nat) (g : ES) : ES := fun ρ K E => heldR i ρ ∧ g ρ (fun y ρ2 => match ρ2[i]? with
  | some s => (match frSl s, asD y with
    | some a, some b => (cmpD a = true ∧ cmpD b = true ∧ min (depD a) (depD b) ≤ 100) ∧ K (.v (.bl (if neg then !eqD a b else eqD a b))) ρ2
    | _, _ => False)
  | none => False) E
/-! a list that nobody else holds is changed -/
/-- e.append(n), e a list that nobody else holds -/
def appT (f : ES) (n : Int) : ES := fun ρ K E => f ρ (fun x ρ1 => match x with
  | .m (.l ds) => ds.length < 1000000 ∧ K (.v .non) ρ1
  | _ => False) E
end
end VS
set_option Elab.async false
set_option linter.all false
set_option maxRecDepth 100000
set_option maxHeartbeats 4000000
/-! VS34: in and not in, of lists of data. Own work. -/
namespace VS
open PySem PySem.Spec PyProof.Rows
open L2 (V Hp HO upd SqL SqT Rd Cx TE TT TA TS TG TGs VK XK WX PE PT PA PS PSs PG PGs OpR RelV CallR Sp FnOk atI)
section
variable {X : Cx} {c : Fr} {W : WX} {p p1 p2 : Bool}
def rInP (K : PySem.W.Frag) (neg : Bool) : L2.R2 := fun x y H Q => ∃ d ds, L2.Dp K H x d ∧ L2.Dp K H y (.list ds) ∧ d.plain = true ∧ PyData.plainAll ds = true ∧ min (PyData.depthAll ds) d.depth ≤ 60 ∧ Q (.bl (if neg then !(ds.any fun z => PyData.eqv z d) else ds.any fun z => PyData.eqv z d)) H
theorem op_inP (hu : X.A.units + 128 < cLine) : OpR X (compareOp .In) (rInP X.K false) := by
  intro pins s σ H x y v u Q I rx ry h
  obtain ⟨d, ds, hd, he, sd, se, hm, q⟩ := h
  obtain ⟨as, r1⟩ := L2.Dp.reads I d x v hd rx
  obtain ⟨bs, r2⟩ := L2.Dp.reads I (.list ds) y u he ry
  exact SeqAt.in_list_data r2 r1 se sd (by omega) ⟨.bl _, H, I, rfl, q⟩
theorem pys_any {a : D} (ha : cmpD a = true) : ∀ ds : List D, cmpDs ds = true → ((pys ds).any fun z => PyData.eqv z (py a)) = ds.any fun z => eqD z a
  | [], _ => rfl
  | d :: ds, h => by
    rw [cmpDs, Bool.and_eq_true] at h
    rw [pys, List.any_cons, List.any_cons, py_eqv d a h.1 ha, pys_any ha ds h.2]
def inR (neg : Bool) : BR := fun x y K _ ρ => match asD x, asD y with
  | some a, some (.lst _ ds) => (cmpD a = true ∧ cmpDs ds = true ∧ min (depDs ds) (depD a) ≤ 60) ∧ K (.v (.bl (if neg then !(ds.any fun z => eqD z a) else ds.any fun z => eqD z a))) ρ
  | _, _ => False
theorem inR_mono {neg : Bool} : MonoR (inR neg) := fun x y ρ K K' E E' hk _ h => by
  unfold inR at h ⊢
  split at h
  · exact ⟨h.1, hk _ _ h.2⟩
  · exact h
theorem inR_says {neg : Bool} (hK : X.K = c.g.K) : Says c (rInP X.K neg) (inR neg) := by
  intro p σ M T H M2 H2 ρ2 as1 as2 v u x y Q E q r1 r2 h
  unfold inR at h
  split at h
  · rename_i a st ds ea eb
    obtain ⟨⟨ca, cb, dp⟩, k⟩ := h
    have cb' : cmpD (.lst st ds) = true := cb
    have e2 : py (.lst st ds) = .list (pys ds) := by rw [py]
    refine ⟨py a, pys ds, hK ▸ r1.dp ea ca, hK ▸ e2 ▸ r2.dp eb cb', py_plain a, ?_, by rw [py_depth, pys_depth]; exact dp, ?_⟩
    · have := py_plain (.lst st ds)
      rw [e2] at this
      simpa [PyData.plain] using this
    · rw [pys_any ca ds cb]
      exact k _ H2 M2 [] q.drop.drop (.v (.bl _))
  · exact h.elim
section
variable {a b : Expr} {f g : ES} {pos : Pos}
theorem tj_in (hK : X.K = c.g.K) (hu : X.A.units + 128 < cLine) (ha : EJ X c W p1 a f) (hb : EJ X c W p2 b g) (hm : behindInMarks .In b = false := by rfl) : TJ X c W (p1 && p2) (.Compare a [.In] [b] pos) (bT (bin p2 f g (inR false))) := tj_cmp (op_inP hu) inR_mono (inR_says hK) hm ha hb
end
end
end VS
set_option Elab.async false
set_option linter.all false
set_option maxRecDepth 100000
set_option maxHeartbeats 4000000
/-! VS59: texts: str of an int, int of a text, split, join, slices, signs of a text, a sign in a text. Own work. -/
namespace VS
open PySem PySem.Spec PyProof.Rows
open L2 (V Hp HO upd SqL SqT Rd Cx TE TT TA TS TG TGs It TI PI VK XK WX PE PT PA PS PSs PG PGs OpR RelV CallR MtR Sp FnOk atI)
/-- the text of an int -/
def nS (i : Int) : Str := Str.ofString (toString i)
def strC : CR := fun xs K _ ρ => match xs with
  | [.v (.int i)] => i.natAbs.log2 < 1920 ∧ K (.v (.str (nS i))) ρ
  | _ => False
def intTC : CR := fun xs K _ ρ => match xs with
  | [.v (.str a)] => (match PySem.intText? a with
    | some n => a.length ≤ 640 ∧ K (.v (.int n)) ρ
    | none => False)
  | _ => False
theorem strC_mono : MonoC strC := fun xs ρ K K' E E' hk _ h => by
  unfold strC at h ⊢
  split at h
  · exact ⟨h.1, hk _ _ h.2⟩
  · exact h
theorem intTC_mono : MonoC intTC := fun xs ρ K K' E E' hk _ h => by
  unfold intTC at h ⊢
  split at h
  · split at h
    · exact ⟨h.1, hk _ _ h.2⟩
    · exact h
  · exact h
def strsD : List D → Option (List Str)
  | [] => some []
  | .str s :: ds => (strsD ds).map (s :: ·)
  | _ :: _ => none
section
variable {X : Cx} {c : Fr} {W : WX} {p p1 p2 : Bool} {M M' M2 : Addr → Prop} {T T' as as1 as2 : List Addr} {σ : L2.St} {H H' H2 : Hp} {ρ ρ' ρ2 : Rho} {f g : ES} {g' h' : Option ES} {pos : Pos}
theorem strC_says : SaysC c (fun xs H Q => ∃ i, xs = [.int i] ∧ i.natAbs.log2 < 1920 ∧ Q (.str (toString i)) H) strC := by
  intro p σ M T H M2 H2 ρ2 as vs xs Q E q r h
  unfold strC at h
  split at h
  · obtain ⟨v, rfl, r1⟩ := r.one
    exact ⟨_, by rw [r1.int], h.1, h.2 _ H2 M2 [] q.drop (.v (.str _))⟩
  · exact h.elim
theorem intTC_says : SaysC c (fun xs H Q => ∃ a n, xs = [.str a] ∧ PySem.intText? a = some n ∧ a.length ≤ 640 ∧ Q (.int n) H) intTC := by
  intro p σ M T H M2 H2 ρ2 as vs xs Q E q r h
  unfold intTC at h
  split at h
  · obtain ⟨v, rfl, r1⟩ := r.one
    split at h
    · rename_i n e
      exact ⟨_, n, by rw [r1.str], e, h.1, h.2 _ H2 M2 [] q.drop (.v (.int _))⟩
    · exact h.elim
  · exact h.elim
theorem reps_strs {g : Ge} {Z M : Addr → Prop} {H : Hp} : ∀ {ys : List Str}, Reps g Z M H (ys.map V.str) (ys.map .str)
  | [] => .nil
  | _ :: _ => .cons (.str _) reps_strs
theorem Reps.strs {g : Ge} {Z M : Addr → Prop} {H : Hp} : ∀ {vs : List V} {ds : List D} {ys : List Str}, Reps g Z M H vs ds → strsD ds = some ys → vs = ys.map V.str
  | _, _, _, .nil, e => by rw [strsD] at e; cases e; rfl
  | _, .str s :: ds, _, .cons r rs, e => by
    rw [strsD] at e
    cases q : strsD ds with
    | none => rw [q] at e; cases e
    | some ys =>
      rw [q] at e; cases e
      cases r
      rw [rs.strs q]; rfl
  | _, .non :: _, _, .cons _ _, e => by simp [strsD] at e
  | _, .bl _ :: _, _, .cons _ _, e => by simp [strsD] at e
  | _, .int _ :: _, _, .cons _ _, e => by simp [strsD] at e
  | _, .ty _ :: _, _, .cons _ _, e => by simp [strsD] at e
  | _, .fn _ :: _, _, .cons _ _, e => by simp [strsD] at e
  | _, .tup _ :: _, _, .cons _ _, e => by simp [strsD] at e
  | _, .lst _ _ :: _, _, .cons _ _, e => by simp [strsD] at e
  | _, .dct _ _ :: _, _, .cons _ _, e => by simp [strsD] at e
/-- a method of a text that is handed one thing -/
def strE (f g : ES) (R : Str → EV → (EV → Prop) → Prop) : ES := fun ρ K E => f ρ (fun x ρ1 => match x with
  | .v (.str a) => g ρ1 (fun y ρ2 => R a y fun z => K z ρ2) E
  | _ => False) E
theorem strE_mono {R : Str → EV → (EV → Prop) → Prop} (hf : Mono f) (hg : Mono g) (hR : ∀ a y k k', (∀ z, k z → k' z) → R a y k → R a y k') : Mono (strE f g R) := fun ρ K K' E E' hk he h => hf _ _ _ _ _ (fun x ρ1 h => by
  split at h
  · exact hg _ _ _ _ _ (fun y ρ2 h => hR _ _ _ _ (fun z => hk _ _) h) he h
  · exact h) he h
def splS : Str → EV → (EV → Prop) → Prop := fun a y k => match y with
  | .v (.str b) => ((b.length == 0) = false ∧ a.length + 2 ≤ sizeLine) ∧ k (.m (.l ((PySem.Txt.split a b).map .str)))
  | _ => False
def joiS : Str → EV → (EV → Prop) → Prop := fun a y k => match (asL y).bind strsD with
  | some ys => (ys.map (·.length)).sum + ys.length * a.length ≤ 16777216 ∧ k (.v (.str (PySem.Txt.join a ys)))
  | none => False
theorem ej_split {o e : Expr} {apos : Pos} (ha : EJ X c W p1 o f) (hb : EJ X c W p2 e g) (hs : starEach [e] X.env = [(false, eval e X.env)] := by rfl) (hbase : attributeBase o "split" X.env (eval o X.env) = eval o X.env := by rfl) (hline : (apos.endLine == pos.line) = true := by rfl) :
    EJ X c W (p1 && p2) (.Call (.Attribute o "split" apos) [e] [] pos) (strE f g splS) := by
  refine ⟨strE_mono ha.mono hb.mono (fun a y k k' hk h => ?_), PE.imp (L2.pe_split ha.run hb.run hs hbase hline) ?_⟩
  · unfold splS at h ⊢
    split at h
    · exact ⟨h.1, hk _ h.2⟩
    · exact h
  · rintro σ H Q ⟨ρ, M, T, s, h⟩
    refine ⟨ρ, M, T, s, ha.mono _ _ _ _ _ (fun x ρ1 h v H1 M1 as1 q1 r1 => ?_) (fun _ _ h => h) h⟩
    split at h
    · rename_i a
      have ht : ∀ x ∈ T, x ∈ as1 ++ T := fun x hx => List.mem_append_right _ hx
      rw [r1.str]
      refine ⟨⟨a, rfl⟩, ρ1, M1, as1 ++ T, q1.sr, hb.mono _ _ _ _ _ (fun y ρ2 k u H2 M2 as2 q2 r2 => ?_) (fun x ρ2 h cls dd H2 M2 q2 r2 => h cls dd H2 M2 (q1.trans q2 ht).weak.drop r2) h⟩
      unfold splS at k
      split at k
      · rename_i b
        rw [r2.str]
        exact ⟨a, b, rfl, rfl, k.1.1, k.1.2, fun l hl => k.2 _ _ _ [l] ((q1.trans q2 ht).drop.drop.own hl (.inl ⟨_, L2.upd_same⟩)) (.m (.l L2.upd_same reps_strs))⟩
      · exact k.elim
    · exact h.elim
theorem ej_join {o e : Expr} {apos : Pos} (hK : X.K = c.g.K) (ha : EJ X c W p1 o f) (hb : EJ X c W p2 e g) (hs : starEach [e] X.env = [(false, eval e X.env)] := by rfl) (hbase : attributeBase o "join" X.env (eval o X.env) = eval o X.env := by rfl) (hline : (apos.endLine == pos.line) = true := by rfl) :
    EJ X c W (p1 && p2) (.Call (.Attribute o "join" apos) [e] [] pos) (strE f g joiS) := by
  refine ⟨strE_mono ha.mono hb.mono (fun a y k k' hk h => ?_), PE.imp (L2.pe_join ha.run hb.run hs hbase hline) ?_⟩
  · unfold joiS at h ⊢
    split at h
    · exact ⟨h.1, hk _ h.2⟩
    · exact h
  · rintro σ H Q ⟨ρ, M, T, s, h⟩
    refine ⟨ρ, M, T, s, ha.mono _ _ _ _ _ (fun x ρ1 h v H1 M1 as1 q1 r1 => ?_) (fun _ _ h => h) h⟩
    split at h
    · rename_i a
      have ht : ∀ x ∈ T, x ∈ as1 ++ T := fun x hx => List.mem_append_right _ hx
      rw [r1.str]
      refine ⟨⟨a, rfl⟩, ρ1, M1, as1 ++ T, q1.sr, hb.mono _ _ _ _ _ (fun y ρ2 k u H2 M2 as2 q2 r2 => ?_) (fun x ρ2 h cls dd H2 M2 q2 r2 => h cls dd H2 M2 (q1.trans q2 ht).weak.drop r2) h⟩
      unfold joiS at k
      split at k
      · rename_i ys ey
        obtain ⟨ds, e1, e2⟩ := Option.bind_eq_some_iff.mp ey
        obtain ⟨l, vs, rfl, t, rs⟩ := r2.list e1
        rw [rs.strs e2] at t
        exact ⟨a, l, ys, rfl, rfl, .inl (hK ▸ t), k.1, k.2 _ H2 M2 [] (q1.trans q2 ht).drop.drop (.v (.str _))⟩
      · exact k.elim
    · exact h.elim
/-! slices of texts too -/
def slZ (f : ES) (g h : Option ES) : ES := fun ρ K E => f ρ (fun x ρ1 => match x with
  | .v (.str z) => intO true g ρ1 (fun i ρ2 => intO true h ρ2 (fun j ρ3 => z.length ≤ sizeLine ∧ K (.v (.str (L2.cutS z i j))) ρ3) E) E
  | _ => False) E
theorem ej_slZ {a : Expr} {lo hi : Option Expr} {p2' : Pos} (ha : EJ X c W p a f) (hg : OJ X c W lo g') (hh : OJ X c W hi h') : EJ X c W p (.Subscript a (.Slice lo hi none p2') pos) (slZ f g' h') := by
  obtain ⟨tl, pl, ul⟩ := po_of hg
  obtain ⟨th, ph, uh⟩ := po_of hh
  refine ⟨fun ρ K K' E E' hk he q => ha.mono _ _ _ _ _ (fun x ρ1 q => ?_) he q, PE.imp (L2.pe_slice L2.sl_str ha.run pl ph) ?_⟩
  · split at q
    · exact intO_mono hg (fun i ρ2 q => intO_mono hh (fun j ρ3 q => ⟨q.1, hk _ _ q.2⟩) he q) he q
    · exact q
  · rintro σ H Q ⟨ρ, M, T, s, k⟩
    refine ⟨ρ, M, T, s, ha.mono _ _ _ _ _ (fun x ρ1 k v H1 M1 as1 q1 r1 => ?_) (fun _ _ z => z) k⟩
    have ht : ∀ z ∈ T, z ∈ as1 ++ T := fun z hz => List.mem_append_right _ hz
    split at k
    · rename_i z
      rw [r1.str]
      refine ul σ ρ1 M1 (as1 ++ T) H1 _ q1.sr (intO_mono hg (fun i ρ2 k H2 M2 q2 => ?_) (fun x ρ2 k cls dd H2 M2 q2 r2 => k cls dd H2 M2 (q1.trans q2 ht).weak.drop r2) k)
      have q12 := q1.trans q2 ht
      rw [Bool.and_true] at q12
      refine uh σ ρ2 M2 (as1 ++ T) H2 _ q12.sr (intO_mono hh (fun j ρ3 k H3 M3 q3 => ?_) (fun x ρ3 k cls dd H3 M3 q3 r3 => k cls dd H3 M3 (q12.trans q3 ht).weak.drop r3) k)
      have q13 := q12.trans q3 ht
      rw [Bool.and_true] at q13
      exact ⟨z, rfl, k.1, k.2 _ _ M3 [] q13.drop (.v (.str _))⟩
    · exact k.elim
/-! the signs of a text -/
def sgD (z : Str) : List D := z.cps.toList.map fun c => .str ⟨#[c]⟩
theorem IT.str {z : Str} : IT c M T H (L2.Its z) (sgD z) := by
  intro σ' M' H' ρ' q i
  unfold sgD
  rw [List.getElem?_map]
  refine ⟨fun d e => ?_, fun e => ?_⟩
  · cases ez : z.cps.toList[i]? with
    | none => rw [ez] at e; cases e
    | some n =>
      rw [ez] at e
      cases e
      have hl := (List.getElem?_eq_some_iff.mp ez).1
      refine ⟨show i < z.cps.size by simpa using hl, fun x H'' y => ?_⟩
      obtain ⟨rfl, m, hm, rfl⟩ := y
      rw [Array.getElem?_toList] at ez
      rw [ez] at hm
      cases hm
      exact ⟨Ext.refl _, .str _⟩
  · show z.cps.size ≤ i
    cases ez : z.cps.toList[i]? with
    | none =>
      have := List.getElem?_eq_none_iff.mp ez
      simpa using this
    | some n => rw [ez] at e; cases e
def itC (f : ES) : IS := fun ρ K E => f ρ (fun x ρ' => match x with
  | .v (.str z) => K (sgD z) ρ'
  | _ => False) E
theorem ij_str {tg l : Expr} (h : EJ X c W p l f) : IJ X c W p tg l (itC f) := by
  refine ⟨fun ρ K K' E E' hk he q => h.mono _ _ _ _ _ (fun x ρ' q => by
    split at q
    · exact hk _ _ q
    · exact q) he q, PI.imp (L2.pi_str h.run) ?_⟩
  rintro σ H R ⟨ρ, M, T, s, k⟩
  refine ⟨ρ, M, T, s, h.mono _ _ _ _ _ (fun x ρ' k v H' M' as q r => ?_) (fun _ _ h => h) k⟩
  split at k
  · rename_i z
    exact ⟨z, r.str, k _ H' M' q.drop IT.str⟩
  · exact k.elim
/-! a sign in a text -/
def inSR (neg : Bool) : BR := fun x y K _ ρ => match x, y with
  | .v (.str a), .v (.str z) => a.cps.size = 1 ∧ K (.v (.bl (if neg then !decide (a.cps.getD 0 0 ∈ z.cps.toList) else decide (a.cps.getD 0 0 ∈ z.cps.toList)))) ρ
  | _, _ => False
theorem inSR_mono {neg : Bool} : MonoR (inSR neg) := fun x y ρ K K' E E' hk _ h => by
  unfold inSR at h ⊢
  split at h
  · exact ⟨h.1, hk _ _ h.2⟩
  · exact h
theorem sg_of {a : Str} (h : a.cps.size = 1) : a = ⟨#[a.cps.getD 0 0]⟩ := by
  obtain ⟨⟨l⟩⟩ := a
  match l, h with
  | [x], _ => rfl
theorem inSR_says {neg : Bool} : Says c (fun x y H Q => ∃ (n : Nat) (z : Str), x = .str ⟨#[n]⟩ ∧ y = .str z ∧ Q (.bl (if neg then !decide (n ∈ z.cps.toList) else decide (n ∈ z.cps.toList))) H) (inSR neg) := by
  intro p σ M T H M2 H2 ρ2 as1 as2 v u x y Q E q r1 r2 h
  unfold inSR at h
  split at h
  · rename_i a z
    exact ⟨a.cps.getD 0 0, z, by rw [r1.str, ← sg_of h.1], r2.str, h.2 _ H2 M2 [] q.drop.drop (.v (.bl _))⟩
  · exact h.elim
variable {a b : Expr}
theorem tj_notinS (ha : EJ X c W p1 a f) (hb : EJ X c W p2 b g) (hm : behindInMarks .NotIn b = false := by rfl) : TJ X c W (p1 && p2) (.Compare a [.NotIn] [b] pos) (bT (bin p2 f g (inSR true))) := tj_cmp L2.op_notIn_sign inSR_mono (inSR_says (neg := true)) hm ha hb
end
end VS
set_option Elab.async false
set_option linter.all false
set_option maxRecDepth 100000
set_option maxHeartbeats 4000000
/-! VS60: a comprehension whose items may raise: the exception is noted, the block's variables let go, and it is in the def's air. Own work. -/
set_option Elab.async false
set_option linter.all false
set_option maxRecDepth 100000
set_option maxHeartbeats 4000000
/-! VS61: list comprehensions whose items may raise. Own work; printed by mk61.py from VS16. -/
namespace VS
open PySem PySem.Spec PyProof.Rows
open L2 (V Hp HO upd SqL SqT Rd Cx TE TT TA TS TG TGs TI It VK XK WX PE PT PTs PA PS PSs PG PGs PI OpR RelV CallR Sp FnOk atI wipe)
def compDz (vs : List Nat) (g : GS) (t : BS) (f : ES) (ρ : Rho) : List D → List D → (List D → Prop) → (Exc → Prop) → Prop
  | [], acc, K, _ => K acc
  | d :: ds, acc, K, E => g (.v d) ρ (fun ρ1 => t ρ1 (fun b ρ2 => if b = true then f ρ2 (fun x ρ3 => wipeR ρ3 vs = ρ ∧ match evD x with
      | some e => compDz vs g t f ρ ds (acc ++ [e]) K E
      | none => False) (fun x ρ3 => wipeR ρ3 vs = ρ ∧ E x) else wipeR ρ2 vs = ρ ∧ compDz vs g t f ρ ds acc K E) (fun _ _ => False))
def compZ (vs : List Nat) (it : IS) (g : GS) (t : BS) (f : ES) : ES := fun ρ K E => it ρ (fun ds ρ1 => ds.length ≤ 1000000 ∧ compDz vs g t f (wipeR ρ1 vs) ds [] (fun out => K (.m (.l out)) (wipeR ρ1 vs)) (fun x => E x (wipeR ρ1 vs))) E
end VS
set_option Elab.async false
set_option linter.all false
set_option maxRecDepth 100000
set_option maxHeartbeats 4000000
/-! VS35: what an owned object holds: paths of fields, read and changed. Own work. -/
namespace VS
open PySem PySem.Spec PyProof.Rows
open L2 (V Hp HO upd SqL SqT Rd Cx TE TT TA TS TG TGs TI It VK XK WX PE PT PA PS PSs PG PGs PI OpR RelV CallR Sp FnOk atI MtR)
/-- a path of fields, the last one first: class, field -/
abbrev RP := List (Str × Str)
def PO (K : PySem.W.Frag) (mg : Str → Option Value) (rp : RP) : Prop := ∀ q ∈ rp, ∃ C, mg q.1 = some (.ref C) ∧ L2.Cls K C ∧ L2.NoAttr K C q.2
section
variable {g : Ge} {Z M M' : Addr → Prop} {H H' : Hp}
theorem RepOs.at : ∀ {vs : List V} {ss : List Sl} {as : List Addr} {j : Nat} {s1 : Sl}, RepOs g Z M H vs ss as → ss[j]? = some s1 →
    ∃ v1 as1 l r, vs[j]? = some v1 ∧ RepO g Z M H v1 s1 as1 ∧ as = l ++ as1 ++ r ∧ ∀ (ch M' : Addr → Prop) (H' : Hp) (w : V) (x : Sl) (as' : List Addr), Moved ch M M' H H' → (∀ a ∈ l ++ r, ¬ ch a) → RepO g Z M' H' w x as' → RepOs g Z M' H' (vs.set j w) (ss.set j x) (l ++ as' ++ r)
  | _, _, _, _, _, .nil, e => by simp at e
  | _, _, _, 0, s1, .cons (v := v) (as := a1) (bs := bs) r rs, e => by
    simp at e
    subst e
    refine ⟨v, a1, [], bs, rfl, r, by simp, fun ch M' H' w x as' m hc rx => ?_⟩
    simp only [List.set_cons_zero, List.nil_append]
    exact .cons rx (rs.moved m fun a h => hc a (by simpa using h))
  | _, _, _, j + 1, s1, .cons (v := v) (as := a1) (bs := bs) r rs, e => by
    obtain ⟨v1, as1, l, r', h1, h2, h3, h4⟩ := rs.at (j := j) (s1 := s1) (by simpa using e)
    refine ⟨v1, as1, a1 ++ l, r', by simpa using h1, h2, by rw [h3]; simp, fun ch M' H' w x as' m hc rx => ?_⟩
    simp only [List.set_cons_succ, List.append_assoc]
    have := RepOs.cons (r.moved m fun a h => hc a (by simp [h])) (h4 ch M' H' w x as' m (fun a h => hc a (by
      rcases List.mem_append.mp h with h | h <;> simp [h])) rx)
    simpa using this
end
end VS
set_option Elab.async false
set_option linter.all false
set_option maxRecDepth 100000
set_option maxHeartbeats 4000000
/-! VS36: lists that an owned object holds, changed; methods; objects made. Own work. -/
namespace VS
open PySem PySem.Spec PyProof.Rows
open L2 (V Hp HO upd SqL SqT Rd Cx TE TT TA TS TG TGs TI It VK XK WX PE PT PA PS PSs PG PGs PI OpR RelV CallR Sp FnOk atI MtR)
/-- the method m of the class cn keeps the promise F, within k calls -/
structure MDef (P : Program) (w : World) (K : PySem.W.Frag) (mg : Str → Option Value) (base : Heap) (k : Nat) (cn m : Str) (ps : List Str) (mask : List Bool) (F : FS) : Prop where
  ex : ∃ C f fd, FnOk P w K mg base (L2.CX P w) k f fd ps (spV ⟨K, mg⟩ mask F) ∧ mg cn = some (.ref C) ∧ L2.Cls K C ∧ L2.Meth K C m f ∧ L2.Binds K fd ps []
  mono : MonoF F
  len : ∀ ss K E, F ss K E → ss.length = mask.length
/-- .. without what its callers ask besides -/
structure MDefR (P : Program) (w : World) (K : PySem.W.Frag) (mg : Str → Option Value) (base : Heap) (k : Nat) (cn m : Str) (ps : List Str) (mask : List Bool) (F : FS) : Prop where
  ex : ∃ C f fd, FnOk P w K mg base (L2.CX P w) k f fd ps (spV ⟨K, mg⟩ mask F) ∧ mg cn = some (.ref C) ∧ L2.Cls K C ∧ L2.Meth K C m f ∧ L2.Binds K fd ps []
section
variable {P : Program} {w : World} {K : PySem.W.Frag} {mg : Str → Option Value} {base : Heap}
theorem MDefR.def {k : Nat} {cn m : Str} {ps : List Str} {mask : List Bool} {F F' : FS} (d : MDefR P w K mg base k cn m ps mask F) (hm : MonoF F') (h : ∀ ss K E, F' ss K E → F ss K E) (hl : ∀ ss K E, F ss K E → ss.length = mask.length) : MDef P w K mg base k cn m ps mask F' := by
  obtain ⟨C, f, fd, G, h1⟩ := d.ex
  exact ⟨⟨C, f, fd, G.imp (spV_imp h), h1⟩, hm, fun ss K E q => hl ss K E (h ss K E q)⟩
end
end VS
set_option Elab.async false
set_option linter.all false
set_option maxRecDepth 100000
set_option maxHeartbeats 4000000
/-! VS37: methods called, objects made. Own work. -/
set_option Elab.async false
set_option linter.all false
set_option maxRecDepth 100000
set_option maxHeartbeats 4000000
/-! VS38: a part of a held tuple looked at. Own work. -/
namespace VS
open PySem PySem.Spec PyProof.Rows
open L2 (V Hp HO upd SqL SqT Rd Cx TE TT TA TS TG TGs TI It VK XK WX PE PT PA PS PSs PG PGs PI OpR RelV CallR Sp FnOk atI MtR)
section
variable {X : Cx} {c : Fr} {W : WX} {i : Nat} {j : Int}
variable {p : Bool} {M M' : Addr → Prop} {T T' : List Addr} {σ : L2.St} {H H' : Hp} {ρ ρ' : Rho}
theorem SR.perm (s : SR c M T σ H ρ) (pm : T'.Perm T) : SR c M T' σ H ρ := by
  obtain ⟨Ms, rs, nd, al⟩ := s.slots
  have pm : (Ms ++ T').Perm (Ms ++ T) := List.Perm.append_left _ pm
  exact ⟨⟨Ms, rs, pm.nodup_iff.mpr nd, fun a ha => al a (pm.mem_iff.mp ha)⟩, s.ty, s.src, s.keep, s.pin, s.ln⟩
end
end VS
set_option Elab.async false
set_option linter.all false
set_option maxRecDepth 100000
set_option maxHeartbeats 4000000
/-! VS39: in and not in, of tuples of data. Own work. -/
namespace VS
open PySem PySem.Spec PyProof.Rows
open L2 (V Hp HO upd SqL SqT Rd Cx TE TT TA TS TG TGs VK XK WX PE PT PA PS PSs PG PGs OpR RelV CallR Sp FnOk atI)
section
variable {X : Cx} {c : Fr} {W : WX} {p p1 p2 : Bool}
def rInQ (K : PySem.W.Frag) (neg : Bool) : L2.R2 := fun x y H Q => ∃ d ds, L2.Dp K H x d ∧ L2.Dp K H y (.tuple ds) ∧ d.plain = true ∧ PyData.plainAll ds = true ∧ min (PyData.depthAll ds) d.depth ≤ 60 ∧ Q (.bl (if neg then !(ds.any fun z => PyData.eqv z d) else ds.any fun z => PyData.eqv z d)) H
theorem op_inQ (hu : X.A.units + 128 < cLine) : OpR X (compareOp .In) (rInQ X.K false) := by
  intro pins s σ H x y v u Q I rx ry h
  obtain ⟨d, ds, hd, he, sd, se, hm, q⟩ := h
  obtain ⟨as, r1⟩ := L2.Dp.reads I d x v hd rx
  obtain ⟨bs, r2⟩ := L2.Dp.reads I (.tuple ds) y u he ry
  exact SeqAt.in_tuple_data r2 r1 se sd (by omega) ⟨.bl _, H, I, rfl, q⟩
def inTR (neg : Bool) : BR := fun x y K _ ρ => match asD x, asD y with
  | some a, some (.tup ds) => (cmpD a = true ∧ cmpDs ds = true ∧ min (depDs ds) (depD a) ≤ 60) ∧ K (.v (.bl (if neg then !(ds.any fun z => eqD z a) else ds.any fun z => eqD z a))) ρ
  | _, _ => False
theorem inTR_mono {neg : Bool} : MonoR (inTR neg) := fun x y ρ K K' E E' hk _ h => by
  unfold inTR at h ⊢
  split at h
  · exact ⟨h.1, hk _ _ h.2⟩
  · exact h
theorem inTR_says {neg : Bool} (hK : X.K = c.g.K) : Says c (rInQ X.K neg) (inTR neg) := by
  intro p σ M T H M2 H2 ρ2 as1 as2 v u x y Q E q r1 r2 h
  unfold inTR at h
  split at h
  · rename_i a ds ea eb
    obtain ⟨⟨ca, cb, dp⟩, k⟩ := h
    have cb' : cmpD (.tup ds) = true := cb
    have e2 : py (.tup ds) = .tuple (pys ds) := by rw [py]
    refine ⟨py a, pys ds, hK ▸ r1.dp ea ca, hK ▸ e2 ▸ r2.dp eb cb', py_plain a, ?_, by rw [py_depth, pys_depth]; exact dp, ?_⟩
    · have := py_plain (.tup ds)
      rw [e2] at this
      simpa [PyData.plain] using this
    · rw [pys_any ca ds cb]
      exact k _ H2 M2 [] q.drop.drop (.v (.bl _))
  · exact h.elim
section
variable {a b : Expr} {f g : ES} {pos : Pos}
theorem tj_inT (hK : X.K = c.g.K) (hu : X.A.units + 128 < cLine) (ha : EJ X c W p1 a f) (hb : EJ X c W p2 b g) (hm : behindInMarks .In b = false := by rfl) : TJ X c W (p1 && p2) (.Compare a [.In] [b] pos) (bT (bin p2 f g (inTR false))) := tj_cmp (op_inQ hu) inTR_mono (inTR_says hK) hm ha hb
end
end
end VS
set_option Elab.async false
set_option linter.all false
set_option maxRecDepth 100000
set_option maxHeartbeats 4000000
/-! VS62: a text so many times. Own work. -/
namespace VS
open PySem PySem.Spec PyProof.Rows
open L2 (V Hp HO upd SqL SqT Rd Cx TE TT TA TS TG TGs VK XK WX PE PT PA PS PSs PG PGs OpR RelV CallR Sp FnOk atI)
def strRep (a : Str) (n : Nat) : Str := ⟨(List.replicate n a.cps).foldl (· ++ ·) #[]⟩
theorem fold_size (a : Array Nat) : ∀ (n : Nat) (b : Array Nat), ((List.replicate n a).foldl (· ++ ·) b).size = b.size + n * a.size
  | 0, b => by simp
  | n + 1, b => by
    rw [List.replicate_succ, List.foldl_cons, fold_size a n, Array.size_append, Nat.succ_mul]
    omega
theorem strRep_len (a : Str) (n : Nat) : (strRep a n).length = n * a.length := by
  show ((List.replicate n a.cps).foldl (· ++ ·) #[]).size = _
  rw [fold_size]
  simp [Str.length]
def rRepS : L2.R2 := fun x y H Q => ∃ (a : Str) (n : Int), x = .str a ∧ y = .int n ∧ 2 ≤ n ∧ n ≤ 1000 ∧ 1 ≤ a.length ∧ a.length ≤ 1000 ∧ Q (.str (strRep a n.toNat)) H
section
variable {X : Cx} {c : Fr} {W : WX} {p1 p2 : Bool}
theorem op_repS : OpR X (binaryOp .Mult) rRepS := by
  intro pins s σ H x y v u Q I rx ry h
  obtain ⟨a, n, rfl, rfl, n2, n3, l1, l2, q⟩ := h
  obtain ⟨t, rfl⟩ := rx
  obtain ⟨t', rfl⟩ := ry
  have sz : (1000000 : Nat) ≤ sizeLine := by decide
  have hm : n.toNat * a.length ≤ 1000000 := Nat.le_trans (Nat.mul_le_mul (by omega : n.toNat ≤ 1000) l2) (by decide)
  have e1 : (n == 1 || a.length == 0) = false := by
    have h1 : ¬ n = 1 := by omega
    have h2 : ¬ a.length = 0 := by omega
    simp [h1, h2]
  refine P.mul_str (by
      have h1 : ¬ n < -(2 ^ 63 : Int) := by omega
      have h2 : ¬ n ≥ 2 ^ 63 := by omega
      rw [decide_eq_false h1, decide_eq_false h2]; rfl) (fun _ _ => ?_) (fun _ _ => ?_) ?_
  · have : (9223372036854775 : Int) ≤ (2 ^ 63 - 1) / n := by
      rw [Int.le_ediv_iff_mul_le (by omega)]
      omega
    omega
  · unfold Builtin.Str.tooLong
    rw [Nat.mul_comm]
    exact decide_eq_false (by omega)
  · rw [if_neg (by omega), e1]
    exact ⟨by
      show (strRep a n.toNat).length ≤ sizeLine
      rw [strRep_len]; omega, .str _, H, I.tok _, ⟨_, rfl⟩, q⟩
def repS : BR := fun x y K _ ρ => match x, y with
  | .v (.str a), .v (.int n) => (2 ≤ n ∧ n ≤ 1000 ∧ 1 ≤ a.length ∧ a.length ≤ 1000) ∧ K (.v (.str (strRep a n.toNat))) ρ
  | _, _ => False
theorem repS_mono : MonoR repS := fun x y ρ K K' E E' hk _ h => by
  unfold repS at h ⊢
  split at h
  · exact ⟨h.1, hk _ _ h.2⟩
  · exact h
theorem repS_says : Says c rRepS repS := by
  intro p σ M T H M2 H2 ρ2 as1 as2 v u x y Q E q r1 r2 h
  unfold repS at h
  split at h
  · rename_i a n
    exact ⟨a, n, by rw [r1.str], r2.int, h.1.1, h.1.2.1, h.1.2.2.1, h.1.2.2.2, h.2 _ H2 M2 [] q.drop.drop (.v (.str _))⟩
  · exact h.elim
theorem ej_repS {a b : Expr} {f g : ES} {pos : Pos} (ha : EJ X c W p1 a f) (hb : EJ X c W p2 b g) : EJ X c W (p1 && p2) (.BinOp a .Mult b pos) (bin p2 f g repS) := ej_op op_repS repS_mono repS_says ha hb
end
end VS
set_option Elab.async false
set_option linter.all false
set_option maxRecDepth 100000
set_option maxHeartbeats 4000000
/-! VM1: fractions as Rat, sizes of ints. Plain mathematics. Own work. -/
namespace VS
/-- the size of an int -/
def Si (n : Nat) (a : Int) : Prop := a.natAbs < 2 ^ n
theorem Si.mono {n m : Nat} {a : Int} (h : Si n a) (l : n ≤ m) : Si m a := Nat.lt_of_lt_of_le h (Nat.pow_le_pow_right (by decide) l)
theorem Si.add {n m : Nat} {a b : Int} (h : Si n a) (h2 : Si m b) : Si (max n m + 1) (a + b) := by
  have h := h.mono (Nat.le_max_left n m)
  have h2 := h2.mono (Nat.le_max_right n m)
  unfold Si at *
  rw [Nat.pow_succ]
  omega
theorem Si.neg {n : Nat} {a : Int} (h : Si n a) : Si n (-a) := by unfold Si at *; omega
theorem Si.sub {n m : Nat} {a b : Int} (h : Si n a) (h2 : Si m b) : Si (max n m + 1) (a - b) := by
  rw [Int.sub_eq_add_neg]; exact h.add h2.neg
theorem Si.mul {n m : Nat} {a b : Int} (h : Si n a) (h2 : Si m b) : Si (n + m) (a * b) := by
  unfold Si at *
  rw [Int.natAbs_mul, Nat.pow_add]
  exact Nat.mul_lt_mul'' h h2
theorem Si.log {n m : Nat} {a : Int} (h : Si n a) (h1 : n ≤ m) (h0 : 0 < m) : a.natAbs.log2 < m := by
  by_cases e : a.natAbs = 0
  · rw [e]; simpa using h0
  · exact (Nat.log2_lt e).mpr (h.mono h1)
theorem Si.of_le {n : Nat} {a b : Int} (h : Si n b) (l : a.natAbs ≤ b.natAbs) : Si n a := Nat.lt_of_le_of_lt l h
theorem MulOk.of {n m : Nat} {a b : Int} (h : Si n a) (h2 : Si m b) (l : n + m < 129999999) : MulOk a b := by
  have e1 := h.log (m := n + 1) (by omega) (by omega)
  have e2 := h2.log (m := m + 1) (by omega) (by omega)
  unfold MulOk; omega
/-- the size of a fraction -/
structure Sm (n : Nat) (q : Rat) : Prop where
  num : Si n q.num
  den : Si n (q.den : Int)
theorem Sm.mono {n m : Nat} {q : Rat} (h : Sm n q) (l : n ≤ m) : Sm m q := ⟨h.1.mono l, h.2.mono l⟩
theorem den_pos (q : Rat) : 0 < (q.den : Int) := by have := q.den_pos; omega
theorem den_ne (q : Rat) : (q.den : Int) ≠ 0 := by have := q.den_pos; omega
theorem num_eq (q : Rat) : (q.num : Rat) = q * ((q.den : Int) : Rat) := by
  have h : ((q.den : Int) : Rat) ≠ 0 := by simpa using q.den_nz
  have := Rat.num_divInt_den q
  rw [Rat.divInt_eq_div] at this
  grind
theorem nd (q : Rat) : (q.num : Rat) / ((q.den : Int) : Rat) = q := by
  rw [← Rat.divInt_eq_div]; exact Rat.num_divInt_den q
theorem frac_num {a b : Int} (hb : b ≠ 0) : ((a : Rat) / b).num = a.fdiv (if b < 0 then 0 - (Int.gcd a b : Int) else Int.gcd a b) := by
  rw [← Rat.divInt_eq_div, Rat.num_divInt, Int.gcd_comm b a]
  have g0 : (0 : Int) < (Int.gcd a b : Int) := by
    have := Int.gcd_pos_iff (a := a) (b := b); omega
  have hd : ((Int.gcd a b : Nat) : Int) ∣ a := Int.gcd_dvd_left ..
  obtain ⟨c, hc⟩ := hd
  generalize hg : ((Int.gcd a b : Nat) : Int) = g at *
  subst hc
  split
  · rename_i h
    rw [Int.sign_eq_neg_one_of_neg h]
    rw [show -1 * (g * c) = g * (-c) by grind, Int.mul_ediv_cancel_left _ (by omega)]
    rw [Int.fdiv_eq_ediv_of_dvd ⟨-c, by grind⟩, show g * c = (0 - g) * (-c) by grind, Int.mul_ediv_cancel_left _ (by omega)]
  · rename_i h
    rw [Int.sign_eq_one_of_pos (by omega), Int.one_mul, Int.mul_ediv_cancel_left _ (by omega), Int.fdiv_eq_ediv_of_dvd ⟨c, rfl⟩, Int.mul_ediv_cancel_left _ (by omega)]
theorem frac_den {a b : Int} (hb : b ≠ 0) : ((((a : Rat) / b).den : Nat) : Int) = b.fdiv (if b < 0 then 0 - (Int.gcd a b : Int) else Int.gcd a b) := by
  rw [← Rat.divInt_eq_div, Rat.den_divInt, if_neg hb, Int.gcd_comm b a]
  have g0 : (0 : Int) < (Int.gcd a b : Int) := by
    have := Int.gcd_pos_iff (a := a) (b := b); omega
  have hd : ((Int.gcd a b : Nat) : Int) ∣ b := Int.gcd_dvd_right ..
  obtain ⟨c, hc⟩ := hd
  have e : ((b.natAbs / Int.gcd a b : Nat) : Int) = (b.natAbs : Int) / (Int.gcd a b : Int) := rfl
  rw [e]
  generalize hg : ((Int.gcd a b : Nat) : Int) = g at *
  subst hc
  split
  · rename_i h
    have : ((g * c).natAbs : Int) = g * (-c) := by rw [Int.ofNat_natAbs_of_nonpos (by omega)]; grind
    rw [this, Int.mul_ediv_cancel_left _ (by omega)]
    rw [Int.fdiv_eq_ediv_of_dvd ⟨-c, by grind⟩, show g * c = (0 - g) * (-c) by grind, Int.mul_ediv_cancel_left _ (by omega)]
  · rename_i h
    have : ((g * c).natAbs : Int) = g * c := Int.natAbs_of_nonneg (by omega)
    rw [this, Int.mul_ediv_cancel_left _ (by omega), Int.fdiv_eq_ediv_of_dvd ⟨c, rfl⟩, Int.mul_ediv_cancel_left _ (by omega)]
theorem fdiv_le {a g : Int} (hg : g ≠ 0) (hd : g ∣ a) : (a.fdiv g).natAbs ≤ a.natAbs := by
  obtain ⟨c, rfl⟩ := hd
  rw [Int.fdiv_eq_ediv_of_dvd ⟨c, rfl⟩, Int.mul_ediv_cancel_left _ hg, Int.natAbs_mul]
  exact Nat.le_mul_of_pos_left _ (by omega)
theorem Sm.div {n m : Nat} {a b : Int} (ha : Si n a) (hb : Si m b) (h0 : b ≠ 0) : Sm (max n m) ((a : Rat) / b) := by
  have g0 : (0 : Int) < (Int.gcd a b : Int) := by
    have := Int.gcd_pos_iff (a := a) (b := b); omega
  have h1 : ((Int.gcd a b : Nat) : Int) ∣ a := Int.gcd_dvd_left ..
  have h2 : ((Int.gcd a b : Nat) : Int) ∣ b := Int.gcd_dvd_right ..
  refine ⟨?_, ?_⟩
  · rw [frac_num h0]
    refine (ha.mono (Nat.le_max_left n m)).of_le (fdiv_le (by split <;> omega) ?_)
    split
    · rw [Int.zero_sub]; exact Int.neg_dvd.mpr h1
    · exact h1
  · rw [frac_den h0]
    refine (hb.mono (Nat.le_max_right n m)).of_le (fdiv_le (by split <;> omega) ?_)
    split
    · rw [Int.zero_sub]; exact Int.neg_dvd.mpr h2
    · exact h2
theorem add_eq (p q : Rat) : p + q = ((p.num * q.den + q.num * p.den : Int) : Rat) / ((p.den * q.den : Int) : Rat) := by
  have h1 : ((p.den : Int) : Rat) ≠ 0 := by simpa using p.den_nz
  have h2 : ((q.den : Int) : Rat) ≠ 0 := by simpa using q.den_nz
  have e1 := num_eq p
  have e2 := num_eq q
  rw [Rat.intCast_add, Rat.intCast_mul, Rat.intCast_mul, Rat.intCast_mul]
  grind
theorem sub_eq (p q : Rat) : p - q = ((p.num * q.den - q.num * p.den : Int) : Rat) / ((p.den * q.den : Int) : Rat) := by
  have h1 : ((p.den : Int) : Rat) ≠ 0 := by simpa using p.den_nz
  have h2 : ((q.den : Int) : Rat) ≠ 0 := by simpa using q.den_nz
  have e1 := num_eq p
  have e2 := num_eq q
  rw [Rat.intCast_sub, Rat.intCast_mul, Rat.intCast_mul, Rat.intCast_mul]
  grind
theorem mul_eq (p q : Rat) : p * q = ((p.num * q.num : Int) : Rat) / ((p.den * q.den : Int) : Rat) := by
  have h1 : ((p.den : Int) : Rat) ≠ 0 := by simpa using p.den_nz
  have h2 : ((q.den : Int) : Rat) ≠ 0 := by simpa using q.den_nz
  have e1 := num_eq p
  have e2 := num_eq q
  rw [Rat.intCast_mul, Rat.intCast_mul]
  grind
theorem Sm.add {n m : Nat} {p q : Rat} (h : Sm n p) (h2 : Sm m q) : Sm (n + m + 1) (p + q) := by
  rw [add_eq]
  exact (Sm.div (((h.1.mul h2.2).add (h2.1.mul h.2))) (h.2.mul h2.2) (Int.mul_ne_zero (den_ne p) (den_ne q))).mono (by omega)
theorem Sm.sub {n m : Nat} {p q : Rat} (h : Sm n p) (h2 : Sm m q) : Sm (n + m + 1) (p - q) := by
  rw [sub_eq]
  exact (Sm.div (((h.1.mul h2.2).sub (h2.1.mul h.2))) (h.2.mul h2.2) (Int.mul_ne_zero (den_ne p) (den_ne q))).mono (by omega)
theorem Sm.mul {n m : Nat} {p q : Rat} (h : Sm n p) (h2 : Sm m q) : Sm (n + m) (p * q) := by
  rw [mul_eq]
  exact (Sm.div (h.1.mul h2.1) (h.2.mul h2.2) (Int.mul_ne_zero (den_ne p) (den_ne q))).mono (by omega)
theorem Sm.int {n : Nat} {a : Int} (h : Si n a) : Sm (n + 1) (a : Rat) := ⟨by simpa using h.mono (by omega), by
  have := Nat.two_pow_pos n
  show ((((a : Rat).den : Nat) : Int)).natAbs < 2 ^ (n + 1)
  rw [Rat.den_intCast, Nat.pow_succ]; simp; omega⟩
/-! ### the loop of Euclid -/
def gcdT (i j : Nat) : BS := bT (bin true (vE j) (cE (.int 0)) gtR)
def gcdB (i j : Nat) : SS := parS i j (consA true (vE j) (consA true (bin true (vE i) (vE j) (intR (fun _ j => j ≠ 0) fun i j => .int (i.fmod j))) nilA))
theorem gcd_loop {i j : Nat} (hij : i ≠ j) (k : SK) : ∀ (n : Nat) (a b : Int) (ρ : Rho), ρ[i]? = some (.v (.int a)) → ρ[j]? = some (.v (.int b)) → 0 ≤ a → 0 ≤ b → b.toNat < n →
    k.nx ((ρ.set i (.v (.int (Int.gcd a b)))).set j (.v (.int 0))) → whileN (gcdT i j) (gcdB i j) n ρ k
  | 0, _, _, _, _, _, _, _, h, _ => by omega
  | n + 1, a, b, ρ, h1, h2, ha, hb, hn, h => by
    have hi : i < ρ.length := (List.getElem?_eq_some_iff.mp h1).1
    have hj : j < ρ.length := (List.getElem?_eq_some_iff.mp h2).1
    unfold whileN gcdT gcdB
    by_cases e : 0 < b
    · simp only [cE, vE, bE, rE, fE, mE, bin, nilA, consA, bT, andT, orT, notT, tupE, lstE, allV, allM, okB, intR, addR, asL, asT, asD, eqR, eqD_nn, eqD_bb, eqD_ii, eqD_ss, eqD_tt, eqD_ll, eqD_bi, eqD_ib, eqD_nt, eqD_tn, eqD_it, eqD_ti, eqD_ni, eqD_in, eqDs_nn, eqDs_cc, eqDs_nc, eqDs_cn, cmpD, cmpDs, depD, depDs, isNon, isNR, chainE, tvE, andV, orV, notV, ifE, slEV, ixR, callV, lenC, isiC, tyN, pick, retEV, callP, argD, argDs, seqS, bkS, ctS, exprS, retS, retNS, ifS, evSl, setS, SK.loop, gN, gNil, gCons, gT, asgS, parS, defF, defK, raiseS, absC, divmodC, mmC, stL, itL, itT, itR1, itR2, itE, shL, itZ, itV, forS, evD, methL, appL, clrL, popL, insL, trL, extL, setixS, argS, argSs, callI, callN, hereA, nextA, negE, itS, wipeR, compE, compD, yesT, seqD, listC, tupC, numd, zipd, nxS, frSl, retSl, retSls, retOk, retOks, tryAsS, tryOnlyS, lookB, kinE, xfE, lookF, frzE, isTR, isTB, allC, blsD, gU, raiseIS, at0, at1, at2, at3, h1, h2, e, decide_true, if_true, hi, hj, List.length_set, true_and]
      refine ⟨by omega, ?_⟩
      have e1 : ((ρ.set i (.v (.int b))).set j (.v (.int (a.fmod b))))[i]? = some (.v (.int b)) := by
        rw [List.getElem?_set_ne (Ne.symm hij), List.getElem?_set_self hi]
      have e2 : ((ρ.set i (.v (.int b))).set j (.v (.int (a.fmod b))))[j]? = some (.v (.int (a.fmod b))) := by
        rw [List.getElem?_set_self (by simpa using hj)]
      have m0 := Int.fmod_nonneg_of_pos a e
      have m1 := Int.fmod_lt_of_pos a e
      refine gcd_loop hij k n b (a.fmod b) _ e1 e2 (by omega) m0 (by omega) ?_
      rw [List.set_comm _ _ hij, List.set_set, List.set_comm _ _ (Ne.symm hij), List.set_set]
      have eg : Int.gcd b (a.fmod b) = Int.gcd a b := by
        rw [Int.fmod_eq_emod_of_nonneg _ hb, Int.emod_def, show a - b * (a / b) = a + b * -(a / b) by grind, Int.gcd_add_mul_left_right, Int.gcd_comm]
      rw [eg]
      exact h
    · have : b = 0 := by omega
      subst this
      simp only [cE, vE, bE, rE, fE, mE, bin, nilA, consA, bT, andT, orT, notT, tupE, lstE, allV, allM, okB, intR, addR, asL, asT, asD, eqR, eqD_nn, eqD_bb, eqD_ii, eqD_ss, eqD_tt, eqD_ll, eqD_bi, eqD_ib, eqD_nt, eqD_tn, eqD_it, eqD_ti, eqD_ni, eqD_in, eqDs_nn, eqDs_cc, eqDs_nc, eqDs_cn, cmpD, cmpDs, depD, depDs, isNon, isNR, chainE, tvE, andV, orV, notV, ifE, slEV, ixR, callV, lenC, isiC, tyN, pick, retEV, callP, argD, argDs, seqS, bkS, ctS, exprS, retS, retNS, ifS, evSl, setS, SK.loop, gN, gNil, gCons, gT, asgS, parS, defF, defK, raiseS, absC, divmodC, mmC, stL, itL, itT, itR1, itR2, itE, shL, itZ, itV, forS, evD, methL, appL, clrL, popL, insL, trL, extL, setixS, argS, argSs, callI, callN, hereA, nextA, negE, itS, wipeR, compE, compD, yesT, seqD, listC, tupC, numd, zipd, nxS, frSl, retSl, retSls, retOk, retOks, tryAsS, tryOnlyS, lookB, kinE, xfE, lookF, frzE, isTR, isTB, allC, blsD, gU, raiseIS, at0, at1, at2, at3, h1, h2, Int.lt_irrefl, decide_false]
      simp only [Bool.false_eq_true, if_false]
      have eg : (Int.gcd a 0 : Int) = a := by rw [Int.gcd_zero_right]; exact Int.natAbs_of_nonneg ha
      rw [eg] at h
      have : (ρ.set i (.v (.int a))).set j (.v (.int 0)) = ρ := by
        have hs : ∀ (l : Rho) (n : Nat) (s : Sl), l[n]? = some s → l.set n s = l := fun l n s h => by
          obtain ⟨hn, e⟩ := List.getElem?_eq_some_iff.mp h
          rw [← e]; exact List.set_getElem_self hn
        rw [hs _ _ _ h1, hs _ _ _ h2]
      rw [this] at h
      exact ⟨trivial, trivial, h⟩
theorem gcd_while {i j : Nat} (hij : i ≠ j) (k : SK) (a b : Int) (ρ : Rho) (h1 : ρ[i]? = some (.v (.int a))) (h2 : ρ[j]? = some (.v (.int b))) (ha : 0 ≤ a) (hb : 0 ≤ b)
    (h : k.nx ((ρ.set i (.v (.int (Int.gcd a b)))).set j (.v (.int 0)))) : whileS (gcdT i j) (gcdB i j) ρ k := ⟨b.toNat + 1, gcd_loop hij k _ a b ρ h1 h2 ha hb (by omega) h⟩
end VS
set_option Elab.async false
set_option linter.all false
set_option maxRecDepth 100000
set_option maxHeartbeats 4000000
/-! VM2: what the defs of fractions promise, and that they do it. Own work. -/
namespace VS
open PySem PySem.Spec PyProof.Rows
/-- a fraction -/
abbrev frD (q : Rat) : D := .tup [.int q.num, .int (q.den : Int)]
def isI : D → Option Bool
  | .int _ => some true
  | .bl _ => some false
  | .str _ => some false
  | .non => some false
  | .tup _ => some false
  | .lst _ _ => some false
  | .dct _ _ => some false
  | _ => none
def F_is_whole : FS := fun ss K _ => match ss with
  | [.v d] => (match isI d with
    | some b => K (.v (.bl b)) []
    | none => False)
  | _ => False
def F_size_of : FS := fun ss K _ => match ss with
  | [.v (.int a)] => K (.v (.int a.natAbs)) []
  | _ => False
def F_divisor : FS := fun ss K _ => match ss with
  | [.v (.int a), .v (.int b)] => (0 ≤ a ∧ 0 ≤ b) ∧ K (.v (.int (Int.gcd a b))) []
  | _ => False
/-- an operation on two fractions -/
def F_two (f : Rat → Rat → Rat) : FS := fun ss K _ => match ss with
  | [.v (.tup [.int a, .int b]), .v (.tup [.int c, .int d])] => (b ≠ 0 ∧ d ≠ 0 ∧ Si 4000 a ∧ Si 4000 b ∧ Si 4000 c ∧ Si 4000 d) ∧ K (.v (frD (f ((a : Rat) / (b : Rat)) ((c : Rat) / (d : Rat))))) []
  | _ => False
def F_plus : FS := F_two fun p q => p + q
/-- less; both bottoms above 0 -/
def F_under : FS := fun ss K _ => match ss with
  | [.v (.tup [.int a, .int b]), .v (.tup [.int c, .int d])] => (0 < b ∧ 0 < d ∧ Si 4000 a ∧ Si 4000 b ∧ Si 4000 c ∧ Si 4000 d) ∧ K (.v (.bl (decide ((a : Rat) / (b : Rat) < (c : Rat) / (d : Rat))))) []
  | _ => False
def sf_is_whole : SS := (retS (andV (callV (isiC kb) (consA true (vE 0) (consA true (cE (.ty "int")) nilA))) (notV (callV (isiC kb) (consA true (vE 0) (consA true (cE (.ty "bool")) nilA))))))
def sf_size_of : SS := (seqS (ifS (bT (bin true (vE 0) (cE (.int 0)) ltR)) (retS (bin true (cE (.int 0)) (vE 0) (intR (fun _ _ => True) fun i j => .int (i - j)))) nxS)
  (retS (vE 0)))
def sf_divisor : SS := (seqS (whileS (bT (bin true (vE 1) (cE (.int 0)) gtR)) (parS 0 1 (consA true (vE 1) (consA true (bin true (vE 0) (vE 1) (intR (fun _ j => j ≠ 0) fun i j => .int (i.fmod j))) nilA))))
  (retS (vE 0)))
def sf_under : SS := (retS (bin true (bin true (bin true (vE 0) (cE (.int 0)) ixR) (bin true (vE 1) (cE (.int 1)) ixR) (intR MulOk fun i j => .int (i * j))) (bin true (bin true (vE 1) (cE (.int 0)) ixR) (bin true (vE 0) (cE (.int 1)) ixR) (intR MulOk fun i j => .int (i * j))) ltR))
theorem m_is_whole : MonoF F_is_whole := fun ss K K' E E' hk he h => by
  unfold F_is_whole at h ⊢
  grind
theorem m_size_of : MonoF F_size_of := fun ss K K' E E' hk he h => by
  unfold F_size_of at h ⊢
  grind
theorem m_divisor : MonoF F_divisor := fun ss K K' E E' hk he h => by
  unfold F_divisor at h ⊢
  grind
theorem m_two {f} : MonoF (F_two f) := fun ss K K' E E' hk he h => by
  unfold F_two at h ⊢
  grind
theorem m_under : MonoF F_under := fun ss K K' E E' hk he h => by
  unfold F_under at h ⊢
  grind
theorem to_is_whole : ∀ ss K E, F_is_whole ss K E → defF [false] 1 sf_is_whole ss K E := fun ss K E h => by
  unfold F_is_whole at h
  split at h
  · rename_i d
    cases d <;> simp only [isI] at h <;> first | exact h.elim | (simp [sf_is_whole, cE, vE, bE, rE, fE, mE, bin, nilA, consA, bT, andT, orT, notT, tupE, lstE, allV, allM, okB, intR, addR, asL, asT, asD, eqR, eqD_nn, eqD_bb, eqD_ii, eqD_ss, eqD_tt, eqD_ll, eqD_bi, eqD_ib, eqD_nt, eqD_tn, eqD_it, eqD_ti, eqD_ni, eqD_in, eqDs_nn, eqDs_cc, eqDs_nc, eqDs_cn, cmpD, cmpDs, depD, depDs, isNon, isNR, chainE, tvE, andV, orV, notV, ifE, slEV, ixR, callV, lenC, isiC, tyN, pick, retEV, callP, argD, argDs, seqS, bkS, ctS, exprS, retS, retNS, ifS, evSl, setS, SK.loop, gN, gNil, gCons, gT, asgS, parS, defF, defK, raiseS, absC, divmodC, mmC, stL, itL, itT, itR1, itR2, itE, shL, itZ, itV, forS, evD, methL, appL, clrL, popL, insL, trL, extL, setixS, argS, argSs, callI, callN, hereA, nextA, negE, itS, wipeR, compE, compD, yesT, seqD, listC, tupC, numd, zipd, nxS, frSl, retSl, retSls, retOk, retOks, tryAsS, tryOnlyS, lookB, kinE, xfE, lookF, frzE, isTR, isTB, allC, blsD, gU, raiseIS, at0, at1, at2, at3, kb]; first | exact h | done)
  · exact h.elim
theorem to_size_of : ∀ ss K E, F_size_of ss K E → defF [false] 1 sf_size_of ss K E := fun ss K E h => by
  unfold F_size_of at h
  split at h
  · rename_i a
    simp [sf_size_of, cE, vE, bE, rE, fE, mE, bin, nilA, consA, bT, andT, orT, notT, tupE, lstE, allV, allM, okB, intR, addR, asL, asT, asD, eqR, eqD_nn, eqD_bb, eqD_ii, eqD_ss, eqD_tt, eqD_ll, eqD_bi, eqD_ib, eqD_nt, eqD_tn, eqD_it, eqD_ti, eqD_ni, eqD_in, eqDs_nn, eqDs_cc, eqDs_nc, eqDs_cn, cmpD, cmpDs, depD, depDs, isNon, isNR, chainE, tvE, andV, orV, notV, ifE, slEV, ixR, callV, lenC, isiC, tyN, pick, retEV, callP, argD, argDs, seqS, bkS, ctS, exprS, retS, retNS, ifS, evSl, setS, SK.loop, gN, gNil, gCons, gT, asgS, parS, defF, defK, raiseS, absC, divmodC, mmC, stL, itL, itT, itR1, itR2, itE, shL, itZ, itV, forS, evD, methL, appL, clrL, popL, insL, trL, extL, setixS, argS, argSs, callI, callN, hereA, nextA, negE, itS, wipeR, compE, compD, yesT, seqD, listC, tupC, numd, zipd, nxS, frSl, retSl, retSls, retOk, retOks, tryAsS, tryOnlyS, lookB, kinE, xfE, lookF, frzE, isTR, isTB, allC, blsD, gU, raiseIS, at0, at1, at2, at3]
    split
    · rwa [Int.ofNat_natAbs_of_nonpos (by omega)] at h
    · rwa [Int.natAbs_of_nonneg (by omega)] at h
  · exact h.elim
theorem to_divisor : ∀ ss K E, F_divisor ss K E → defF [false, false] 2 sf_divisor ss K E := fun ss K E h => by
  unfold F_divisor at h
  split at h
  · rename_i a b
    refine ⟨rfl, ?_⟩
    unfold sf_divisor seqS
    refine gcd_while (i := 0) (j := 1) (by decide) _ a b _ rfl rfl h.1.1 h.1.2 ?_
    simp [cE, vE, bE, rE, fE, mE, bin, nilA, consA, bT, andT, orT, notT, tupE, lstE, allV, allM, okB, intR, addR, asL, asT, asD, eqR, eqD_nn, eqD_bb, eqD_ii, eqD_ss, eqD_tt, eqD_ll, eqD_bi, eqD_ib, eqD_nt, eqD_tn, eqD_it, eqD_ti, eqD_ni, eqD_in, eqDs_nn, eqDs_cc, eqDs_nc, eqDs_cn, cmpD, cmpDs, depD, depDs, isNon, isNR, chainE, tvE, andV, orV, notV, ifE, slEV, ixR, callV, lenC, isiC, tyN, pick, retEV, callP, argD, argDs, seqS, bkS, ctS, exprS, retS, retNS, ifS, evSl, setS, SK.loop, gN, gNil, gCons, gT, asgS, parS, defF, defK, raiseS, absC, divmodC, mmC, stL, itL, itT, itR1, itR2, itE, shL, itZ, itV, forS, evD, methL, appL, clrL, popL, insL, trL, extL, setixS, argS, argSs, callI, callN, hereA, nextA, negE, itS, wipeR, compE, compD, yesT, seqD, listC, tupC, numd, zipd, nxS, frSl, retSl, retSls, retOk, retOks, tryAsS, tryOnlyS, lookB, kinE, xfE, lookF, frzE, isTR, isTB, allC, blsD, gU, raiseIS, at0, at1, at2, at3]
    exact h.2
  · exact h.elim
theorem divOk_of {a g : Int} {n : Nat} (h : Si n g) (hn : n ≤ 8999) (h0 : g ≠ 0) : DivOk a g := ⟨h0, Nat.lt_of_lt_of_le (h.log (m := 8999) hn (by decide)) (by decide)⟩
theorem gcd_si {a b : Int} {n : Nat} (h : Si n b) (hb : b ≠ 0) : Si n (Int.gcd a b : Int) := by
  refine h.of_le ?_
  have h1 : Int.gcd a b ∣ b.natAbs := Int.gcd_dvd_natAbs_right ..
  have := Nat.le_of_dvd (by omega) h1
  simpa using this
theorem gcd_pos {a b : Int} (hb : b ≠ 0) : (0 : Int) < (Int.gcd a b : Int) := by
  have := Int.gcd_pos_iff (a := a) (b := b); omega
theorem gcd_nat {a b : Int} : Nat.gcd a.natAbs b.natAbs = Int.gcd a b := rfl
theorem to_two {sf : SS} {f : Rat → Rat → Rat} (h : ∀ (a b c d : Int) K E, b ≠ 0 → d ≠ 0 → Si 4000 a → Si 4000 b → Si 4000 c → Si 4000 d → K (.v (frD (f ((a : Rat) / (b : Rat)) ((c : Rat) / (d : Rat))))) [] → defF [false, false] 2 sf [.v (.tup [.int a, .int b]), .v (.tup [.int c, .int d])] K E) :
    ∀ ss K E, F_two f ss K E → defF [false, false] 2 sf ss K E := fun ss K E q => by
  unfold F_two at q
  split at q
  · obtain ⟨⟨h1, h2, h3, h4, h5, h6⟩, q⟩ := q
    exact h _ _ _ _ K E h1 h2 h3 h4 h5 h6 q
  · exact q.elim
theorem cne {b : Int} (h : b ≠ 0) : (b : Rat) ≠ 0 := by simpa using h
theorem plus_f {a b c d : Int} (hb : b ≠ 0) (hd : d ≠ 0) : ((a : Rat) * d + c * b) / (b * d) = (a : Rat) / b + (c : Rat) / d := by
  have := cne hb; have := cne hd
  grind
theorem under_f {a b c d : Int} (hb : 0 < b) (hd : 0 < d) : ((a : Rat) / b < (c : Rat) / d) = (a * d < c * b) := by
  have hb' : (0 : Rat) < b := by exact_mod_cast hb
  have hd' : (0 : Rat) < d := by exact_mod_cast hd
  rw [Rat.div_lt_iff hb', show (c : Rat) / d * b = c * b / d by grind, Rat.lt_div_iff hd', ← Rat.intCast_mul, ← Rat.intCast_mul, Rat.intCast_lt_intCast]
theorem to_under : ∀ ss K E, F_under ss K E → defF [false, false] 2 sf_under ss K E := fun ss K E q => by
  unfold F_under at q
  split at q
  · rename_i a b c d
    obtain ⟨⟨hb, hd, sa, sb, sc, sd⟩, h⟩ := q
    simp [sf_under, cE, vE, bE, rE, fE, mE, bin, nilA, consA, bT, andT, orT, notT, tupE, lstE, allV, allM, okB, intR, addR, asL, asT, asD, eqR, eqD_nn, eqD_bb, eqD_ii, eqD_ss, eqD_tt, eqD_ll, eqD_bi, eqD_ib, eqD_nt, eqD_tn, eqD_it, eqD_ti, eqD_ni, eqD_in, eqDs_nn, eqDs_cc, eqDs_nc, eqDs_cn, cmpD, cmpDs, depD, depDs, isNon, isNR, chainE, tvE, andV, orV, notV, ifE, slEV, ixR, callV, lenC, isiC, tyN, pick, retEV, callP, argD, argDs, seqS, bkS, ctS, exprS, retS, retNS, ifS, evSl, setS, SK.loop, gN, gNil, gCons, gT, asgS, parS, defF, defK, raiseS, absC, divmodC, mmC, stL, itL, itT, itR1, itR2, itE, shL, itZ, itV, forS, evD, methL, appL, clrL, popL, insL, trL, extL, setixS, argS, argSs, callI, callN, hereA, nextA, negE, itS, wipeR, compE, compD, yesT, seqD, listC, tupC, numd, zipd, nxS, frSl, retSl, retSls, retOk, retOks, tryAsS, tryOnlyS, lookB, kinE, xfE, lookF, frzE, isTR, isTB, allC, blsD, gU, raiseIS, at0, at1, at2, at3]
    simp only [under_f hb hd] at h
    exact ⟨.of sa sd (by decide), .of sc sb (by decide), h⟩
  · exact q.elim
end VS
set_option Elab.async false
set_option linter.all false
set_option maxRecDepth 100000
set_option maxHeartbeats 4000000
/-! VM3: what the laws' own common defs promise, and that they do it. Own work. -/
namespace VS
open PySem PySem.Spec PyProof.Rows
theorem loop_go {g : GS} {f : SS} (k : SK) (ds0 : List D) (I : Nat → Rho → Prop) (step : ∀ (i : Nat) (d : D) (ρ : Rho) (K' : Rho → Prop), ds0[i]? = some d → I i ρ → (∀ ρ', I (i + 1) ρ' → K' ρ') → g (.v d) ρ (fun ρ1 => f ρ1 (k.loop K')))
    (done : ∀ ρ, I ds0.length ρ → k.nx ρ) : ∀ (ds : List D) (i : Nat) (ρ : Rho), ds0.drop i = ds → i ≤ ds0.length → I i ρ → loopS g f ds ρ k
  | [], i, ρ, e, hi, h => by
    have : i = ds0.length := by
      have := congrArg List.length e
      simp at this; omega
    subst this
    exact done ρ h
  | d :: ds, i, ρ, e, hi, h => by
    have hl : i < ds0.length := by
      have := congrArg List.length e
      simp at this; omega
    have e1 : ds0[i]? = some d := by
      have := congrArg (fun l => l[0]?) e
      simpa using this
    have e2 : ds0.drop (i + 1) = ds := by
      have := congrArg List.tail e
      simpa using this
    exact step i d ρ _ e1 h fun ρ' h' => loop_go k ds0 I step done ds (i + 1) ρ' e2 (by omega) h'
/-- a loop by its invariant -/
theorem loop_inv {g : GS} {f : SS} {k : SK} {ds : List D} {ρ : Rho} (I : Nat → Rho → Prop) (h0 : I 0 ρ) (step : ∀ (i : Nat) (d : D) (ρ : Rho) (K' : Rho → Prop), ds[i]? = some d → I i ρ → (∀ ρ', I (i + 1) ρ' → K' ρ') → g (.v d) ρ (fun ρ1 => f ρ1 (k.loop K')))
    (done : ∀ ρ, I ds.length ρ → k.nx ρ) : loopS g f ds ρ k := loop_go k ds I step done ds 0 ρ rfl (Nat.zero_le _) h0
theorem rngD_get {lo : Int} {n i : Nat} {d : D} (h : (rngD lo n)[i]? = some d) : i < n ∧ d = .int (lo + (i : Nat)) := by
  unfold rngD at h
  rw [List.getElem?_map] at h
  by_cases hi : i < n
  · rw [List.getElem?_range hi] at h
    exact ⟨hi, (Option.some.inj h).symm⟩
  · rw [List.getElem?_eq_none (by simpa using hi)] at h
    cases h
theorem rngD_len {lo : Int} {n : Nat} : (rngD lo n).length = n := by unfold rngD; simp
theorem Si.lit {n : Nat} {a : Int} (h : a.natAbs < 2 ^ n := by decide) : Si n a := h
/-! ### cells, boxes -/
abbrev bigB : Nat := 1100000
/-- the script -/
def isScript (ds : List D) : Prop := ∃ ns : List Int, ds = ns.map .int ∧ ns.length ≤ 63 ∧ ∀ n ∈ ns, Si bigB n
def F__law_cell : FS := fun ss K _ => match ss with
  | [.v (.lst _ ds), .v (.int k)] => (isScript ds ∧ 0 ≤ k ∧ k < 2 ^ 40) ∧ ∀ n, Si bigB n → K (.v (.int n)) []
  | _ => False
def F__law_mix : FS := fun ss K _ => match ss with
  | [.v (.int c), .v (.int k)] => (Si bigB c ∧ 0 ≤ k ∧ k < 2 ^ 40) ∧ ∀ n, 0 ≤ n → n < 2147483563 → K (.v (.int n)) []
  | _ => False
def F__law_box : FS := fun ss K _ => match ss with
  | [.v (.lst _ ds), .v (.int k)] => (isScript ds ∧ 0 ≤ k ∧ k < 2 ^ 40) ∧ ∀ n, K (.m (.l [.int n])) []
  | _ => False
def F__law_take : FS := fun ss K _ => match ss with
  | [.l [.int n], .v (.int m)] => (0 < m ∧ Si 8000 m) ∧ ∀ d n', 0 ≤ d → d < m → K (.v (.int d)) [.l [.int n']]
  | _ => False
def F__law_fit : FS := fun ss K E => match ss with
  | [.v (.int a), .v (.int b)] => (b ≠ 0 ∧ Si 8100 b) ∧ K (.v (frD ((a : Rat) / (b : Rat)))) []
  | _ => False
def F__law_plus : FS := F_plus
def F__law_less : FS := F_under
def sf__law_cell : SS := (seqS (ifS (bT (bin true (vE 1) (callV lenC (consA true (vE 0) nilA)) ltR)) (retS (bin true (vE 0) (vE 1) ixR)) nxS)
  (retS (bin true (bin true (cE (.int 6151)) (vE 1) (intR MulOk fun i j => .int (i * j))) (cE (.int 29)) addR)))
def sf__law_mix : SS := (seqS (setS 2 true (bin true (bin true (bin true (vE 0) (cE (.int 1)) addR) (cE (.int 40692)) (intR MulOk fun i j => .int (i * j))) (bin true (cE (.int 104729)) (vE 1) (intR MulOk fun i j => .int (i * j))) addR))
  (seqS (setS 2 true (bin true (bin true (bin true (vE 2) (vE 2) (intR MulOk fun i j => .int (i * j))) (cE (.int 2147483399)) (intR (fun _ j => j ≠ 0) fun i j => .int (i.fmod j))) (vE 1) addR))
  (retS (bin true (bin true (vE 2) (bin true (vE 2) (cE (.int 31)) addR) (intR MulOk fun i j => .int (i * j))) (cE (.int 2147483563)) (intR (fun _ j => j ≠ 0) fun i j => .int (i.fmod j))))))
def sf__law_box : SS := (seqS (setS 2 true (callP F__law_cell [] (consA true (vE 0) (consA true (vE 1) nilA))))
  (seqS (ifS (bT (bin true (bin true (vE 2) (cE (.int 2)) (intR (fun _ j => j ≠ 0) fun i j => .int (i.fmod j))) (cE (.int 0)) (eqR false))) (retS (lstE (consA true (bin true (vE 2) (cE (.int 2)) (intR DivOk fun i j => .int (i.fdiv j))) nilA))) nxS)
  (seqS (setS 3 true (cE (.int 0)))
  (seqS (forS (itR1 (consA true (cE (.int 16)) nilA)) (gN 4 true) (setS 3 true (bin true (bin true (vE 3) (cE (.int 2147483647)) (intR MulOk fun i j => .int (i * j))) (callP F__law_mix [] (consA true (vE 2) (consA true (vE 4) nilA))) addR)))
  (retS (lstE (consA true (vE 3) nilA)))))))
def sf__law_take : SS := (seqS (asgS (gT 2 (gCons (gN 2 true) (gCons (gN 3 true) gNil))) (callV divmodC (consA true (bin true (rE 0) (cE (.int 0)) ixR) (consA true (vE 1) nilA))))
  (seqS (setixS true 0 (vE 2) (cE (.int 0)))
  (retS (vE 3))))
def sf__law_fit : SS := (seqS (parS 2 3 (consA true (callV absC (consA true (vE 0) nilA)) (consA true (callV absC (consA true (vE 1) nilA)) nilA)))
  (seqS (whileS (bT (bin true (vE 3) (cE (.int 0)) gtR)) (parS 2 3 (consA true (vE 3) (consA true (bin true (vE 2) (vE 3) (intR (fun _ j => j ≠ 0) fun i j => .int (i.fmod j))) nilA))))
  (seqS (ifS (bT (bin true (vE 1) (cE (.int 0)) ltR)) (setS 2 true (bin true (cE (.int 0)) (vE 2) (intR (fun _ _ => True) fun i j => .int (i - j)))) nxS)
  (retS (tupE (consA true (bin true (vE 0) (vE 2) (intR DivOk fun i j => .int (i.fdiv j))) (consA true (bin true (vE 1) (vE 2) (intR DivOk fun i j => .int (i.fdiv j))) nilA)))))))
def sf__law_plus : SS := (retS (callP F__law_fit [] (consA true (bin true (bin true (bin true (vE 0) (cE (.int 0)) ixR) (bin true (vE 1) (cE (.int 1)) ixR) (intR MulOk fun i j => .int (i * j))) (bin true (bin true (vE 1) (cE (.int 0)) ixR) (bin true (vE 0) (cE (.int 1)) ixR) (intR MulOk fun i j => .int (i * j))) addR) (consA true (bin true (bin true (vE 0) (cE (.int 1)) ixR) (bin true (vE 1) (cE (.int 1)) ixR) (intR MulOk fun i j => .int (i * j))) nilA))))
def sf__law_less : SS := (retS (bin true (bin true (bin true (vE 0) (cE (.int 0)) ixR) (bin true (vE 1) (cE (.int 1)) ixR) (intR MulOk fun i j => .int (i * j))) (bin true (bin true (vE 1) (cE (.int 0)) ixR) (bin true (vE 0) (cE (.int 1)) ixR) (intR MulOk fun i j => .int (i * j))) ltR))
theorem m__law_cell : MonoF F__law_cell := fun ss K K' E E' hk he h => by
  unfold F__law_cell at h ⊢
  grind
theorem m__law_mix : MonoF F__law_mix := fun ss K K' E E' hk he h => by
  unfold F__law_mix at h ⊢
  grind
theorem m__law_box : MonoF F__law_box := fun ss K K' E E' hk he h => by
  unfold F__law_box at h ⊢
  grind
theorem m__law_take : MonoF F__law_take := fun ss K K' E E' hk he h => by
  unfold F__law_take at h ⊢
  grind
theorem m__law_fit : MonoF F__law_fit := fun ss K K' E E' hk he h => by
  unfold F__law_fit at h ⊢
  grind
theorem m__law_plus : MonoF F__law_plus := m_two
theorem m__law_less : MonoF F__law_less := m_under
theorem k40 {k : Int} (h : 0 ≤ k) (h2 : k < 2 ^ 40) : Si 41 k := by unfold Si; omega
theorem to__law_cell : ∀ ss K E, F__law_cell ss K E → defF [false, false] 2 sf__law_cell ss K E := fun ss K E h => by
  unfold F__law_cell at h
  split at h
  · rename_i st ds k
    obtain ⟨⟨⟨ns, rfl, hl, hs⟩, h0, h1⟩, q⟩ := h
    simp [sf__law_cell, cE, vE, bE, rE, fE, mE, bin, nilA, consA, bT, andT, orT, notT, tupE, lstE, allV, allM, okB, intR, addR, asL, asT, asD, eqR, eqD_nn, eqD_bb, eqD_ii, eqD_ss, eqD_tt, eqD_ll, eqD_bi, eqD_ib, eqD_nt, eqD_tn, eqD_it, eqD_ti, eqD_ni, eqD_in, eqDs_nn, eqDs_cc, eqDs_nc, eqDs_cn, cmpD, cmpDs, depD, depDs, isNon, isNR, chainE, tvE, andV, orV, notV, ifE, slEV, ixR, callV, lenC, isiC, tyN, pick, retEV, callP, argD, argDs, seqS, bkS, ctS, exprS, retS, retNS, ifS, evSl, setS, SK.loop, gN, gNil, gCons, gT, asgS, parS, defF, defK, raiseS, absC, divmodC, mmC, stL, itL, itT, itR1, itR2, itE, shL, itZ, itV, forS, evD, methL, appL, clrL, popL, insL, trL, extL, setixS, argS, argSs, callI, callN, hereA, nextA, negE, itS, wipeR, compE, compD, yesT, seqD, listC, tupC, numd, zipd, nxS, frSl, retSl, retSls, retOk, retOks, tryAsS, tryOnlyS, lookB, kinE, xfE, lookF, frzE, isTR, isTB, allC, blsD, gU, raiseIS, at0, at1, at2, at3]
    split
    · rename_i hk
      have hn : k.toNat < ns.length := by omega
      have e : L2.atI (ns.map D.int) k = some (.int (ns[k.toNat])) := by
        simp [L2.atI, L2.ixN, h0, hk]
      rw [e]
      exact ⟨rfl, q _ (hs _ (List.getElem_mem hn))⟩
    · refine ⟨.of (Si.lit (n := 13)) (k40 h0 h1) (by decide), q _ ?_⟩
      exact (((Si.lit (n := 13) (a := 6151)).mul (k40 h0 h1)).add (Si.lit (n := 5) (a := 29))).mono (by decide)
  · exact h.elim
theorem to__law_mix : ∀ ss K E, F__law_mix ss K E → defF [false, false] 3 sf__law_mix ss K E := fun ss K E h => by
  unfold F__law_mix at h
  split at h
  · rename_i c k
    obtain ⟨⟨hc, h0, h1⟩, q⟩ := h
    simp [sf__law_mix, cE, vE, bE, rE, fE, mE, bin, nilA, consA, bT, andT, orT, notT, tupE, lstE, allV, allM, okB, intR, addR, asL, asT, asD, eqR, eqD_nn, eqD_bb, eqD_ii, eqD_ss, eqD_tt, eqD_ll, eqD_bi, eqD_ib, eqD_nt, eqD_tn, eqD_it, eqD_ti, eqD_ni, eqD_in, eqDs_nn, eqDs_cc, eqDs_nc, eqDs_cn, cmpD, cmpDs, depD, depDs, isNon, isNR, chainE, tvE, andV, orV, notV, ifE, slEV, ixR, callV, lenC, isiC, tyN, pick, retEV, callP, argD, argDs, seqS, bkS, ctS, exprS, retS, retNS, ifS, evSl, setS, SK.loop, gN, gNil, gCons, gT, asgS, parS, defF, defK, raiseS, absC, divmodC, mmC, stL, itL, itT, itR1, itR2, itE, shL, itZ, itV, forS, evD, methL, appL, clrL, popL, insL, trL, extL, setixS, argS, argSs, callI, callN, hereA, nextA, negE, itS, wipeR, compE, compD, yesT, seqD, listC, tupC, numd, zipd, nxS, frSl, retSl, retSls, retOk, retOks, tryAsS, tryOnlyS, lookB, kinE, xfE, lookF, frzE, isTR, isTB, allC, blsD, gU, raiseIS, at0, at1, at2, at3]
    have s1 : Si (bigB + 60) (c + 1) := (hc.add (Si.lit (n := 1) (a := 1))).mono (by decide)
    have s2 : Si (bigB + 80) ((c + 1) * 40692) := (s1.mul (Si.lit (n := 16) (a := 40692))).mono (by decide)
    have s3 : Si (bigB + 90) ((c + 1) * 40692 + 104729 * k) := (s2.add ((Si.lit (n := 17) (a := 104729)).mul (k40 h0 h1))).mono (by decide)
    have s4 : Si 50 ((((c + 1) * 40692 + 104729 * k) * ((c + 1) * 40692 + 104729 * k)).fmod 2147483399 + k) := by
      have a0 := Int.fmod_nonneg_of_pos (((c + 1) * 40692 + 104729 * k) * ((c + 1) * 40692 + 104729 * k)) (b := 2147483399) (by decide)
      have a1 := Int.fmod_lt_of_pos (((c + 1) * 40692 + 104729 * k) * ((c + 1) * 40692 + 104729 * k)) (b := 2147483399) (by decide)
      unfold Si; omega
    refine ⟨.of s1 (Si.lit (n := 16)) (by decide), .of (Si.lit (n := 17)) (k40 h0 h1) (by decide), .of s3 s3 (by decide), .of s4 (s4.add (Si.lit (n := 5))) (by decide), q _ (Int.fmod_nonneg_of_pos _ (by decide)) (Int.fmod_lt_of_pos _ (by decide))⟩
  · exact h.elim
theorem to__law_take : ∀ ss K E, F__law_take ss K E → defF [true, false] 4 sf__law_take ss K E := fun ss K E h => by
  unfold F__law_take at h
  split at h
  · rename_i n m
    obtain ⟨⟨h0, h1⟩, q⟩ := h
    simp [sf__law_take, L2.ixN, cE, vE, bE, rE, fE, mE, bin, nilA, consA, bT, andT, orT, notT, tupE, lstE, allV, allM, okB, intR, addR, asL, asT, asD, eqR, eqD_nn, eqD_bb, eqD_ii, eqD_ss, eqD_tt, eqD_ll, eqD_bi, eqD_ib, eqD_nt, eqD_tn, eqD_it, eqD_ti, eqD_ni, eqD_in, eqDs_nn, eqDs_cc, eqDs_nc, eqDs_cn, cmpD, cmpDs, depD, depDs, isNon, isNR, chainE, tvE, andV, orV, notV, ifE, slEV, ixR, callV, lenC, isiC, tyN, pick, retEV, callP, argD, argDs, seqS, bkS, ctS, exprS, retS, retNS, ifS, evSl, setS, SK.loop, gN, gNil, gCons, gT, asgS, parS, defF, defK, raiseS, absC, divmodC, mmC, stL, itL, itT, itR1, itR2, itE, shL, itZ, itV, forS, evD, methL, appL, clrL, popL, insL, trL, extL, setixS, argS, argSs, callI, callN, hereA, nextA, negE, itS, wipeR, compE, compD, yesT, seqD, listC, tupC, numd, zipd, nxS, frSl, retSl, retSls, retOk, retOks, tryAsS, tryOnlyS, lookB, kinE, xfE, lookF, frzE, isTR, isTB, allC, blsD, gU, raiseIS, at0, at1, at2, at3]
    exact ⟨divOk_of h1 (by decide) (by omega), q _ _ (Int.fmod_nonneg_of_pos _ h0) (Int.fmod_lt_of_pos _ h0)⟩
  · exact h.elim
theorem to__law_box : ∀ ss K E, F__law_box ss K E → defF [false, false] 5 sf__law_box ss K E := fun ss K E h => by
  unfold F__law_box at h
  split at h
  · rename_i st ds k
    obtain ⟨⟨hs, h0, h1⟩, q⟩ := h
    simp [sf__law_box, F__law_cell, cE, vE, bE, rE, fE, mE, bin, nilA, consA, bT, andT, orT, notT, tupE, lstE, allV, allM, okB, intR, addR, asL, asT, asD, eqR, eqD_nn, eqD_bb, eqD_ii, eqD_ss, eqD_tt, eqD_ll, eqD_bi, eqD_ib, eqD_nt, eqD_tn, eqD_it, eqD_ti, eqD_ni, eqD_in, eqDs_nn, eqDs_cc, eqDs_nc, eqDs_cn, cmpD, cmpDs, depD, depDs, isNon, isNR, chainE, tvE, andV, orV, notV, ifE, slEV, ixR, callV, lenC, isiC, tyN, pick, retEV, callP, argD, argDs, seqS, bkS, ctS, exprS, retS, retNS, ifS, evSl, setS, SK.loop, gN, gNil, gCons, gT, asgS, parS, defF, defK, raiseS, absC, divmodC, mmC, stL, itL, itT, itR1, itR2, itE, shL, itZ, itV, forS, evD, methL, appL, clrL, popL, insL, trL, extL, setixS, argS, argSs, callI, callN, hereA, nextA, negE, itS, wipeR, compE, compD, yesT, seqD, listC, tupC, numd, zipd, nxS, frSl, retSl, retSls, retOk, retOks, tryAsS, tryOnlyS, lookB, kinE, xfE, lookF, frzE, isTR, isTB, allC, blsD, gU, raiseIS, at0, at1, at2, at3]
    refine ⟨⟨hs, h0, h1⟩, fun n hn => ?_⟩
    split
    · exact ⟨divOk_of (n := 10) (Si.lit (a := 2)) (by decide) (by decide), q _⟩
    · refine loop_inv (fun i ρ => ∃ x y, Si (40 * i + 40) x ∧ ρ = [.v (.lst st ds), .v (.int k), .v (.int n), .v (.int x), y]) ⟨0, .no, Si.lit, rfl⟩ ?_ ?_
      · rintro i d ρ K' hd ⟨x, y, hx, rfl⟩ next
        obtain ⟨hi, rfl⟩ := rngD_get hd
        simp [F__law_mix, cE, vE, bE, rE, fE, mE, bin, nilA, consA, bT, andT, orT, notT, tupE, lstE, allV, allM, okB, intR, addR, asL, asT, asD, eqR, eqD_nn, eqD_bb, eqD_ii, eqD_ss, eqD_tt, eqD_ll, eqD_bi, eqD_ib, eqD_nt, eqD_tn, eqD_it, eqD_ti, eqD_ni, eqD_in, eqDs_nn, eqDs_cc, eqDs_nc, eqDs_cn, cmpD, cmpDs, depD, depDs, isNon, isNR, chainE, tvE, andV, orV, notV, ifE, slEV, ixR, callV, lenC, isiC, tyN, pick, retEV, callP, argD, argDs, seqS, bkS, ctS, exprS, retS, retNS, ifS, evSl, setS, SK.loop, gN, gNil, gCons, gT, asgS, parS, defF, defK, raiseS, absC, divmodC, mmC, stL, itL, itT, itR1, itR2, itE, shL, itZ, itV, forS, evD, methL, appL, clrL, popL, insL, trL, extL, setixS, argS, argSs, callI, callN, hereA, nextA, negE, itS, wipeR, compE, compD, yesT, seqD, listC, tupC, numd, zipd, nxS, frSl, retSl, retSls, retOk, retOks, tryAsS, tryOnlyS, lookB, kinE, xfE, lookF, frzE, isTR, isTB, allC, blsD, gU, raiseIS, at0, at1, at2, at3]
        refine ⟨.of hx (Si.lit (n := 31)) (by omega), ⟨hn, by omega⟩, fun m m0 m1 => next _ ⟨_, _, ?_, rfl⟩⟩
        refine ((hx.mul (Si.lit (n := 31) (a := 2147483647))).add (m := 31) (b := m) (by unfold Si; omega)).mono (by omega)
      · rintro ρ ⟨x, y, hx, rfl⟩
        simp [cE, vE, bE, rE, fE, mE, bin, nilA, consA, bT, andT, orT, notT, tupE, lstE, allV, allM, okB, intR, addR, asL, asT, asD, eqR, eqD_nn, eqD_bb, eqD_ii, eqD_ss, eqD_tt, eqD_ll, eqD_bi, eqD_ib, eqD_nt, eqD_tn, eqD_it, eqD_ti, eqD_ni, eqD_in, eqDs_nn, eqDs_cc, eqDs_nc, eqDs_cn, cmpD, cmpDs, depD, depDs, isNon, isNR, chainE, tvE, andV, orV, notV, ifE, slEV, ixR, callV, lenC, isiC, tyN, pick, retEV, callP, argD, argDs, seqS, bkS, ctS, exprS, retS, retNS, ifS, evSl, setS, SK.loop, gN, gNil, gCons, gT, asgS, parS, defF, defK, raiseS, absC, divmodC, mmC, stL, itL, itT, itR1, itR2, itE, shL, itZ, itV, forS, evD, methL, appL, clrL, popL, insL, trL, extL, setixS, argS, argSs, callI, callN, hereA, nextA, negE, itS, wipeR, compE, compD, yesT, seqD, listC, tupC, numd, zipd, nxS, frSl, retSl, retSls, retOk, retOks, tryAsS, tryOnlyS, lookB, kinE, xfE, lookF, frzE, isTR, isTB, allC, blsD, gU, raiseIS, at0, at1, at2, at3]
        exact q _
  · exact h.elim
theorem to__law_fit : ∀ ss K E, F__law_fit ss K E → defF [false, false] 4 sf__law_fit ss K E := fun ss K E h => by
  unfold F__law_fit at h
  split at h
  · rename_i a b
    obtain ⟨⟨hb, h1⟩, h2⟩ := h
    refine ⟨rfl, ?_⟩
    have ea : (if a < 0 then -a else a) = (a.natAbs : Int) := by split <;> omega
    have eb : (if b < 0 then -b else b) = (b.natAbs : Int) := by split <;> omega
    unfold sf__law_fit
    simp only [seqS, parS, consA, nilA, callV, vE, absC, List.length_cons, List.length_nil, List.replicate, List.cons_append, List.nil_append, List.getElem?_cons_zero, List.getElem?_cons_succ, evSl, List.set, okB, ea, eb, true_and]
    refine ⟨by decide, by decide, ?_⟩
    refine gcd_while (i := 2) (j := 3) (by decide) _ (a.natAbs : Int) (b.natAbs : Int) _ rfl rfl (by omega) (by omega) ?_
    simp [gcd_nat, cE, vE, bE, rE, fE, mE, bin, nilA, consA, bT, andT, orT, notT, tupE, lstE, allV, allM, okB, intR, addR, asL, asT, asD, eqR, eqD_nn, eqD_bb, eqD_ii, eqD_ss, eqD_tt, eqD_ll, eqD_bi, eqD_ib, eqD_nt, eqD_tn, eqD_it, eqD_ti, eqD_ni, eqD_in, eqDs_nn, eqDs_cc, eqDs_nc, eqDs_cn, cmpD, cmpDs, depD, depDs, isNon, isNR, chainE, tvE, andV, orV, notV, ifE, slEV, ixR, callV, lenC, isiC, tyN, pick, retEV, callP, argD, argDs, seqS, bkS, ctS, exprS, retS, retNS, ifS, evSl, setS, SK.loop, gN, gNil, gCons, gT, asgS, parS, defF, defK, raiseS, absC, divmodC, mmC, stL, itL, itT, itR1, itR2, itE, shL, itZ, itV, forS, evD, methL, appL, clrL, popL, insL, trL, extL, setixS, argS, argSs, callI, callN, hereA, nextA, negE, itS, wipeR, compE, compD, yesT, seqD, listC, tupC, numd, zipd, nxS, frSl, retSl, retSls, retOk, retOks, tryAsS, tryOnlyS, lookB, kinE, xfE, lookF, frzE, isTR, isTB, allC, blsD, gU, raiseIS, at0, at1, at2, at3]
    unfold frD at h2
    rw [frac_num hb, frac_den hb] at h2
    have g0 := gcd_pos (a := a) hb
    have gs := gcd_si (a := a) h1 hb
    split
    · rename_i hn
      rw [if_pos hn, Int.zero_sub] at h2
      exact ⟨divOk_of gs.neg (by decide) (by omega), divOk_of gs.neg (by decide) (by omega), h2⟩
    · rename_i hn
      rw [if_neg hn] at h2
      exact ⟨divOk_of gs (by decide) (by omega), divOk_of gs (by decide) (by omega), h2⟩
  · exact h.elim
theorem to__law_plus : ∀ ss K E, F__law_plus ss K E → defF [false, false] 2 sf__law_plus ss K E := to_two fun a b c d K E hb hd sa sb sc sd h => by
  simp [sf__law_plus, cE, vE, bE, rE, fE, mE, bin, nilA, consA, bT, andT, orT, notT, tupE, lstE, allV, allM, okB, intR, addR, asL, asT, asD, eqR, eqD_nn, eqD_bb, eqD_ii, eqD_ss, eqD_tt, eqD_ll, eqD_bi, eqD_ib, eqD_nt, eqD_tn, eqD_it, eqD_ti, eqD_ni, eqD_in, eqDs_nn, eqDs_cc, eqDs_nc, eqDs_cn, cmpD, cmpDs, depD, depDs, isNon, isNR, chainE, tvE, andV, orV, notV, ifE, slEV, ixR, callV, lenC, isiC, tyN, pick, retEV, callP, argD, argDs, seqS, bkS, ctS, exprS, retS, retNS, ifS, evSl, setS, SK.loop, gN, gNil, gCons, gT, asgS, parS, defF, defK, raiseS, absC, divmodC, mmC, stL, itL, itT, itR1, itR2, itE, shL, itZ, itV, forS, evD, methL, appL, clrL, popL, insL, trL, extL, setixS, argS, argSs, callI, callN, hereA, nextA, negE, itS, wipeR, compE, compD, yesT, seqD, listC, tupC, numd, zipd, nxS, frSl, retSl, retSls, retOk, retOks, tryAsS, tryOnlyS, lookB, kinE, xfE, lookF, frzE, isTR, isTB, allC, blsD, gU, raiseIS, at0, at1, at2, at3, F__law_fit, Int.mul_ne_zero hb hd, hb, hd]
  rw [plus_f hb hd]
  exact ⟨.of sa sd (by decide), .of sc sb (by decide), .of sb sd (by decide), (sb.mul sd).mono (by decide), h⟩
theorem to__law_less : ∀ ss K E, F__law_less ss K E → defF [false, false] 2 sf__law_less ss K E := to_under
end VS
set_option Elab.async false
set_option linter.all false
set_option maxRecDepth 100000
set_option maxHeartbeats 4000000
/-! VM4: how two bodies part; drawn bodies. Own work. -/
set_option Elab.async false
set_option linter.all false
set_option maxRecDepth 100000
set_option maxHeartbeats 4000000
/-! VM5: push and might; two drawn bodies. Own work. -/
namespace VS
open PySem PySem.Spec PyProof.Rows
/-- a body, by its numbers -/
structure Bd where
  a : Int
  b : Int
  c : Int
  d : Int
  m : Int
abbrev Bd.u (x : Bd) : Rat := (x.c : Rat) / (x.d : Rat)
end VS
set_option Elab.async false
set_option linter.all false
set_option maxRecDepth 100000
set_option maxHeartbeats 4000000
/-! VM6: bodies with fractions. Own work. -/
namespace VS
open PySem PySem.Spec PyProof.Rows
/-- a body -/
structure Bw where
  p : Rat
  u : Rat
  m : Int
def wD (b : Bw) : D := .tup [frD b.p, frD b.u, .int b.m]
theorem eq_w1 (b : Bw) : eqD (wD b) (wD b) = true := by simp [wD, eqD, eqDs]
theorem eq_w : ∀ bs : List Bw, eqDs (bs.map wD) (bs.map wD) = true
  | [] => by simp [eqDs]
  | b :: bs => by simp [eqDs, eq_w1, eq_w bs]
theorem cmp_w : ∀ bs : List Bw, cmpDs (bs.map wD) = true
  | [] => by simp [cmpDs]
  | b :: bs => by simp [cmpDs, cmp_w bs, wD, cmpD]
theorem dep_w : ∀ bs : List Bw, depDs (bs.map wD) ≤ 2
  | [] => by simp [depDs]
  | b :: bs => by
    have := dep_w bs
    simp [depDs, wD, depD]
    omega
end VS
set_option Elab.async false
set_option linter.all false
set_option maxRecDepth 100000
set_option maxHeartbeats 4000000
/-! VM7: bodies seen from a speed, mirrored. Own work. -/
namespace VS
theorem Sm.n {k n : Nat} {q : Rat} (h : Sm k q) (hk : k ≤ n := by decide) : Si n q.num := Si.mono h.1 hk
theorem Sm.d {k n : Nat} {q : Rat} (h : Sm k q) (hk : k ≤ n := by decide) : Si n q.den := Si.mono h.2 hk
theorem Sm.neg {k : Nat} {q : Rat} (h : Sm k q) : Sm k (-q) := ⟨by rw [Rat.neg_num]; exact h.1.neg, by rw [Rat.neg_den]; exact h.2⟩
end VS
set_option Elab.async false
set_option linter.all false
set_option maxRecDepth 100000
set_option maxHeartbeats 4000000
/-! VM15: what is a fraction; odd things. Own work. -/
namespace VS
open PySem PySem.Spec PyProof.Rows
open L2 (V Hp Cx WX)
def isFr : D → Bool
  | .tup [.int a, .int b] => decide (0 < b) && decide (Int.gcd a b = 1)
  | _ => false
def okF : D → Prop
  | .tup [x, y] => isI x ≠ none ∧ isI y ≠ none
  | .ty _ => False
  | .fn _ => False
  | _ => True
def oddOk (d : D) : Prop := d = .non ∨ d = .bl true ∨ d = .bl false ∨ d = .str "1" ∨ d = .str "" ∨ d = .tup [.int 1, .int 1] ∨ d = .lst true [.int 1] ∨ d = .dct [.inr "a"] [.int 1] ∨ d = .tup []
def F_is_fraction : FS := fun ss K _ => ∃ d, ss = [.v d] ∧ okF d ∧ K (.v (.bl (isFr d))) []
def F__law_whole : FS := F_is_whole
def F__law_odd : FS := fun ss K _ => ∃ n : Int, ss = [.l [.int n]] ∧ ∀ d n', oddOk d → K (.v d) [.l [.int n']]
def sf_is_fraction : SS := (seqS (ifS (orT (notT (bT (callV (isiC kb) (consA true (vE 0) (consA true (cE (.ty "tuple")) nilA))))) (orT (bT (bin true (callV lenC (consA true (vE 0) nilA)) (cE (.int 2)) (eqR true))) (orT (notT (bT (callP F_is_whole [] (consA true (bin true (vE 0) (cE (.int 0)) ixR) nilA)))) (notT (bT (callP F_is_whole [] (consA true (bin true (vE 0) (cE (.int 1)) ixR) nilA))))))) (retS (cE (.bl false))) nxS)
  (retS (andV (bin true (bin true (vE 0) (cE (.int 1)) ixR) (cE (.int 0)) gtR) (bin true (callP F_divisor [] (consA true (callP F_size_of [] (consA true (bin true (vE 0) (cE (.int 0)) ixR) nilA)) (consA true (bin true (vE 0) (cE (.int 1)) ixR) nilA))) (cE (.int 1)) (eqR false)))))
def sf__law_whole : SS := (retS (andV (callV (isiC kb) (consA true (vE 0) (consA true (cE (.ty "int")) nilA))) (notV (callV (isiC kb) (consA true (vE 0) (consA true (cE (.ty "bool")) nilA))))))
def sf__law_odd : SS := (retS (bin false (lstE (consA true (cE .non) (consA true (cE (.bl true)) (consA true (cE (.bl false)) (consA true (cE (.str "1")) (consA true (cE (.str "")) (consA true (tupE (consA true (cE (.int 1)) (consA true (cE (.int 1)) nilA))) (consA true (frzE (lstE (consA true (cE (.int 1)) nilA))) (consA true (cE (.dct [.inr "a"] [.int 1])) (consA true (tupE nilA) nilA)))))))))) (callI F__law_take 0 (hereA 0 (consA true (cE (.int 9)) nilA))) ixR))
theorem m_is_fraction : MonoF F_is_fraction := fun ss K K' E E' hk he ⟨d, h1, h2, h3⟩ => ⟨d, h1, h2, hk _ _ h3⟩
theorem m__law_whole : MonoF F__law_whole := m_is_whole
theorem m__law_odd : MonoF F__law_odd := fun ss K K' E E' hk he ⟨n, h1, h3⟩ => ⟨n, h1, fun d n' h => hk _ _ (h3 d n' h)⟩
theorem to__law_whole : ∀ ss K E, F__law_whole ss K E → defF [false] 1 sf__law_whole ss K E := to_is_whole
theorem isI_not {x : D} (h : isI x ≠ none) : (∃ i, x = .int i) ∨ isI x = some false := by
  cases x <;> simp [isI] at h ⊢
theorem to_is_fraction : ∀ ss K E, F_is_fraction ss K E → defF [false] 1 sf_is_fraction ss K E := fun ss K E h => by
  obtain ⟨d, rfl, ok, h⟩ := h
  cases d with
  | ty _ => exact ok.elim
  | fn _ => exact ok.elim
  | int i => simp [sf_is_fraction, cE, vE, bE, rE, fE, mE, bin, nilA, consA, bT, andT, orT, notT, tupE, lstE, allV, allM, okB, intR, addR, asL, asT, asD, eqR, eqD_nn, eqD_bb, eqD_ii, eqD_ss, eqD_tt, eqD_ll, eqD_bi, eqD_ib, eqD_nt, eqD_tn, eqD_it, eqD_ti, eqD_ni, eqD_in, eqDs_nn, eqDs_cc, eqDs_nc, eqDs_cn, cmpD, cmpDs, depD, depDs, isNon, isNR, chainE, tvE, andV, orV, notV, ifE, slEV, ixR, callV, lenC, isiC, tyN, pick, retEV, callP, argD, argDs, seqS, bkS, ctS, exprS, retS, retNS, ifS, evSl, setS, SK.loop, gN, gNil, gCons, gT, asgS, parS, defF, defK, raiseS, absC, divmodC, mmC, stL, itL, itT, itR1, itR2, itE, shL, itZ, itV, forS, evD, methL, appL, clrL, popL, insL, trL, extL, setixS, argS, argSs, callI, callN, hereA, nextA, negE, itS, wipeR, compE, compD, yesT, seqD, listC, tupC, numd, zipd, nxS, frSl, retSl, retSls, retOk, retOks, tryAsS, tryOnlyS, lookB, kinE, xfE, lookF, frzE, isTR, isTB, allC, blsD, gU, raiseIS, at0, at1, at2, at3, lrE, sortC, intC, intsD, slE, intO, cutD, eqXR, slX, addT, repT, compX, compDx, kb]; exact h
  | bl b => simp [sf_is_fraction, cE, vE, bE, rE, fE, mE, bin, nilA, consA, bT, andT, orT, notT, tupE, lstE, allV, allM, okB, intR, addR, asL, asT, asD, eqR, eqD_nn, eqD_bb, eqD_ii, eqD_ss, eqD_tt, eqD_ll, eqD_bi, eqD_ib, eqD_nt, eqD_tn, eqD_it, eqD_ti, eqD_ni, eqD_in, eqDs_nn, eqDs_cc, eqDs_nc, eqDs_cn, cmpD, cmpDs, depD, depDs, isNon, isNR, chainE, tvE, andV, orV, notV, ifE, slEV, ixR, callV, lenC, isiC, tyN, pick, retEV, callP, argD, argDs, seqS, bkS, ctS, exprS, retS, retNS, ifS, evSl, setS, SK.loop, gN, gNil, gCons, gT, asgS, parS, defF, defK, raiseS, absC, divmodC, mmC, stL, itL, itT, itR1, itR2, itE, shL, itZ, itV, forS, evD, methL, appL, clrL, popL, insL, trL, extL, setixS, argS, argSs, callI, callN, hereA, nextA, negE, itS, wipeR, compE, compD, yesT, seqD, listC, tupC, numd, zipd, nxS, frSl, retSl, retSls, retOk, retOks, tryAsS, tryOnlyS, lookB, kinE, xfE, lookF, frzE, isTR, isTB, allC, blsD, gU, raiseIS, at0, at1, at2, at3, lrE, sortC, intC, intsD, slE, intO, cutD, eqXR, slX, addT, repT, compX, compDx, kb]; exact h
  | non => simp [sf_is_fraction, cE, vE, bE, rE, fE, mE, bin, nilA, consA, bT, andT, orT, notT, tupE, lstE, allV, allM, okB, intR, addR, asL, asT, asD, eqR, eqD_nn, eqD_bb, eqD_ii, eqD_ss, eqD_tt, eqD_ll, eqD_bi, eqD_ib, eqD_nt, eqD_tn, eqD_it, eqD_ti, eqD_ni, eqD_in, eqDs_nn, eqDs_cc, eqDs_nc, eqDs_cn, cmpD, cmpDs, depD, depDs, isNon, isNR, chainE, tvE, andV, orV, notV, ifE, slEV, ixR, callV, lenC, isiC, tyN, pick, retEV, callP, argD, argDs, seqS, bkS, ctS, exprS, retS, retNS, ifS, evSl, setS, SK.loop, gN, gNil, gCons, gT, asgS, parS, defF, defK, raiseS, absC, divmodC, mmC, stL, itL, itT, itR1, itR2, itE, shL, itZ, itV, forS, evD, methL, appL, clrL, popL, insL, trL, extL, setixS, argS, argSs, callI, callN, hereA, nextA, negE, itS, wipeR, compE, compD, yesT, seqD, listC, tupC, numd, zipd, nxS, frSl, retSl, retSls, retOk, retOks, tryAsS, tryOnlyS, lookB, kinE, xfE, lookF, frzE, isTR, isTB, allC, blsD, gU, raiseIS, at0, at1, at2, at3, lrE, sortC, intC, intsD, slE, intO, cutD, eqXR, slX, addT, repT, compX, compDx, kb]; exact h
  | str s => simp [sf_is_fraction, cE, vE, bE, rE, fE, mE, bin, nilA, consA, bT, andT, orT, notT, tupE, lstE, allV, allM, okB, intR, addR, asL, asT, asD, eqR, eqD_nn, eqD_bb, eqD_ii, eqD_ss, eqD_tt, eqD_ll, eqD_bi, eqD_ib, eqD_nt, eqD_tn, eqD_it, eqD_ti, eqD_ni, eqD_in, eqDs_nn, eqDs_cc, eqDs_nc, eqDs_cn, cmpD, cmpDs, depD, depDs, isNon, isNR, chainE, tvE, andV, orV, notV, ifE, slEV, ixR, callV, lenC, isiC, tyN, pick, retEV, callP, argD, argDs, seqS, bkS, ctS, exprS, retS, retNS, ifS, evSl, setS, SK.loop, gN, gNil, gCons, gT, asgS, parS, defF, defK, raiseS, absC, divmodC, mmC, stL, itL, itT, itR1, itR2, itE, shL, itZ, itV, forS, evD, methL, appL, clrL, popL, insL, trL, extL, setixS, argS, argSs, callI, callN, hereA, nextA, negE, itS, wipeR, compE, compD, yesT, seqD, listC, tupC, numd, zipd, nxS, frSl, retSl, retSls, retOk, retOks, tryAsS, tryOnlyS, lookB, kinE, xfE, lookF, frzE, isTR, isTB, allC, blsD, gU, raiseIS, at0, at1, at2, at3, lrE, sortC, intC, intsD, slE, intO, cutD, eqXR, slX, addT, repT, compX, compDx, kb]; exact h
  | lst s ds => simp [sf_is_fraction, cE, vE, bE, rE, fE, mE, bin, nilA, consA, bT, andT, orT, notT, tupE, lstE, allV, allM, okB, intR, addR, asL, asT, asD, eqR, eqD_nn, eqD_bb, eqD_ii, eqD_ss, eqD_tt, eqD_ll, eqD_bi, eqD_ib, eqD_nt, eqD_tn, eqD_it, eqD_ti, eqD_ni, eqD_in, eqDs_nn, eqDs_cc, eqDs_nc, eqDs_cn, cmpD, cmpDs, depD, depDs, isNon, isNR, chainE, tvE, andV, orV, notV, ifE, slEV, ixR, callV, lenC, isiC, tyN, pick, retEV, callP, argD, argDs, seqS, bkS, ctS, exprS, retS, retNS, ifS, evSl, setS, SK.loop, gN, gNil, gCons, gT, asgS, parS, defF, defK, raiseS, absC, divmodC, mmC, stL, itL, itT, itR1, itR2, itE, shL, itZ, itV, forS, evD, methL, appL, clrL, popL, insL, trL, extL, setixS, argS, argSs, callI, callN, hereA, nextA, negE, itS, wipeR, compE, compD, yesT, seqD, listC, tupC, numd, zipd, nxS, frSl, retSl, retSls, retOk, retOks, tryAsS, tryOnlyS, lookB, kinE, xfE, lookF, frzE, isTR, isTB, allC, blsD, gU, raiseIS, at0, at1, at2, at3, lrE, sortC, intC, intsD, slE, intO, cutD, eqXR, slX, addT, repT, compX, compDx, kb]; exact h
  | dct ks ds => simp [sf_is_fraction, cE, vE, bE, rE, fE, mE, bin, nilA, consA, bT, andT, orT, notT, tupE, lstE, allV, allM, okB, intR, addR, asL, asT, asD, eqR, eqD_nn, eqD_bb, eqD_ii, eqD_ss, eqD_tt, eqD_ll, eqD_bi, eqD_ib, eqD_nt, eqD_tn, eqD_it, eqD_ti, eqD_ni, eqD_in, eqDs_nn, eqDs_cc, eqDs_nc, eqDs_cn, cmpD, cmpDs, depD, depDs, isNon, isNR, chainE, tvE, andV, orV, notV, ifE, slEV, ixR, callV, lenC, isiC, tyN, pick, retEV, callP, argD, argDs, seqS, bkS, ctS, exprS, retS, retNS, ifS, evSl, setS, SK.loop, gN, gNil, gCons, gT, asgS, parS, defF, defK, raiseS, absC, divmodC, mmC, stL, itL, itT, itR1, itR2, itE, shL, itZ, itV, forS, evD, methL, appL, clrL, popL, insL, trL, extL, setixS, argS, argSs, callI, callN, hereA, nextA, negE, itS, wipeR, compE, compD, yesT, seqD, listC, tupC, numd, zipd, nxS, frSl, retSl, retSls, retOk, retOks, tryAsS, tryOnlyS, lookB, kinE, xfE, lookF, frzE, isTR, isTB, allC, blsD, gU, raiseIS, at0, at1, at2, at3, lrE, sortC, intC, intsD, slE, intO, cutD, eqXR, slX, addT, repT, compX, compDx, kb]; exact h
  | tup ds =>
    match ds, ok, h with
    | [], _, h => simp [sf_is_fraction, cE, vE, bE, rE, fE, mE, bin, nilA, consA, bT, andT, orT, notT, tupE, lstE, allV, allM, okB, intR, addR, asL, asT, asD, eqR, eqD_nn, eqD_bb, eqD_ii, eqD_ss, eqD_tt, eqD_ll, eqD_bi, eqD_ib, eqD_nt, eqD_tn, eqD_it, eqD_ti, eqD_ni, eqD_in, eqDs_nn, eqDs_cc, eqDs_nc, eqDs_cn, cmpD, cmpDs, depD, depDs, isNon, isNR, chainE, tvE, andV, orV, notV, ifE, slEV, ixR, callV, lenC, isiC, tyN, pick, retEV, callP, argD, argDs, seqS, bkS, ctS, exprS, retS, retNS, ifS, evSl, setS, SK.loop, gN, gNil, gCons, gT, asgS, parS, defF, defK, raiseS, absC, divmodC, mmC, stL, itL, itT, itR1, itR2, itE, shL, itZ, itV, forS, evD, methL, appL, clrL, popL, insL, trL, extL, setixS, argS, argSs, callI, callN, hereA, nextA, negE, itS, wipeR, compE, compD, yesT, seqD, listC, tupC, numd, zipd, nxS, frSl, retSl, retSls, retOk, retOks, tryAsS, tryOnlyS, lookB, kinE, xfE, lookF, frzE, isTR, isTB, allC, blsD, gU, raiseIS, at0, at1, at2, at3, lrE, sortC, intC, intsD, slE, intO, cutD, eqXR, slX, addT, repT, compX, compDx, kb]; exact h
    | [x], _, h =>
      have e : isFr (.tup [x]) = false := by cases x <;> rfl
      rw [e] at h
      simp [sf_is_fraction, cE, vE, bE, rE, fE, mE, bin, nilA, consA, bT, andT, orT, notT, tupE, lstE, allV, allM, okB, intR, addR, asL, asT, asD, eqR, eqD_nn, eqD_bb, eqD_ii, eqD_ss, eqD_tt, eqD_ll, eqD_bi, eqD_ib, eqD_nt, eqD_tn, eqD_it, eqD_ti, eqD_ni, eqD_in, eqDs_nn, eqDs_cc, eqDs_nc, eqDs_cn, cmpD, cmpDs, depD, depDs, isNon, isNR, chainE, tvE, andV, orV, notV, ifE, slEV, ixR, callV, lenC, isiC, tyN, pick, retEV, callP, argD, argDs, seqS, bkS, ctS, exprS, retS, retNS, ifS, evSl, setS, SK.loop, gN, gNil, gCons, gT, asgS, parS, defF, defK, raiseS, absC, divmodC, mmC, stL, itL, itT, itR1, itR2, itE, shL, itZ, itV, forS, evD, methL, appL, clrL, popL, insL, trL, extL, setixS, argS, argSs, callI, callN, hereA, nextA, negE, itS, wipeR, compE, compD, yesT, seqD, listC, tupC, numd, zipd, nxS, frSl, retSl, retSls, retOk, retOks, tryAsS, tryOnlyS, lookB, kinE, xfE, lookF, frzE, isTR, isTB, allC, blsD, gU, raiseIS, at0, at1, at2, at3, lrE, sortC, intC, intsD, slE, intO, cutD, eqXR, slX, addT, repT, compX, compDx, kb]; exact h
    | x :: y :: z :: r, _, h =>
      have e : isFr (.tup (x :: y :: z :: r)) = false := by cases x <;> cases y <;> rfl
      rw [e] at h
      have hne : ¬ ((r.length : Int) + 1 + 1 + 1 = 2) := by omega
      simp [sf_is_fraction, cE, vE, bE, rE, fE, mE, bin, nilA, consA, bT, andT, orT, notT, tupE, lstE, allV, allM, okB, intR, addR, asL, asT, asD, eqR, eqD_nn, eqD_bb, eqD_ii, eqD_ss, eqD_tt, eqD_ll, eqD_bi, eqD_ib, eqD_nt, eqD_tn, eqD_it, eqD_ti, eqD_ni, eqD_in, eqDs_nn, eqDs_cc, eqDs_nc, eqDs_cn, cmpD, cmpDs, depD, depDs, isNon, isNR, chainE, tvE, andV, orV, notV, ifE, slEV, ixR, callV, lenC, isiC, tyN, pick, retEV, callP, argD, argDs, seqS, bkS, ctS, exprS, retS, retNS, ifS, evSl, setS, SK.loop, gN, gNil, gCons, gT, asgS, parS, defF, defK, raiseS, absC, divmodC, mmC, stL, itL, itT, itR1, itR2, itE, shL, itZ, itV, forS, evD, methL, appL, clrL, popL, insL, trL, extL, setixS, argS, argSs, callI, callN, hereA, nextA, negE, itS, wipeR, compE, compD, yesT, seqD, listC, tupC, numd, zipd, nxS, frSl, retSl, retSls, retOk, retOks, tryAsS, tryOnlyS, lookB, kinE, xfE, lookF, frzE, isTR, isTB, allC, blsD, gU, raiseIS, at0, at1, at2, at3, lrE, sortC, intC, intsD, slE, intO, cutD, eqXR, slX, addT, repT, compX, compDx, kb, hne]
      exact h
    | [x, y], ok, h =>
      obtain ⟨kx, ky⟩ := ok
      rcases isI_not kx with ⟨a, rfl⟩ | hx
      · rcases isI_not ky with ⟨b, rfl⟩ | hy
        · have e : isFr (.tup [.int a, .int b]) = (decide (0 < b) && decide (Int.gcd a b = 1)) := rfl
          rw [e] at h
          simp [sf_is_fraction, cE, vE, bE, rE, fE, mE, bin, nilA, consA, bT, andT, orT, notT, tupE, lstE, allV, allM, okB, intR, addR, asL, asT, asD, eqR, eqD_nn, eqD_bb, eqD_ii, eqD_ss, eqD_tt, eqD_ll, eqD_bi, eqD_ib, eqD_nt, eqD_tn, eqD_it, eqD_ti, eqD_ni, eqD_in, eqDs_nn, eqDs_cc, eqDs_nc, eqDs_cn, cmpD, cmpDs, depD, depDs, isNon, isNR, chainE, tvE, andV, orV, notV, ifE, slEV, ixR, callV, lenC, isiC, tyN, pick, retEV, callP, argD, argDs, seqS, bkS, ctS, exprS, retS, retNS, ifS, evSl, setS, SK.loop, gN, gNil, gCons, gT, asgS, parS, defF, defK, raiseS, absC, divmodC, mmC, stL, itL, itT, itR1, itR2, itE, shL, itZ, itV, forS, evD, methL, appL, clrL, popL, insL, trL, extL, setixS, argS, argSs, callI, callN, hereA, nextA, negE, itS, wipeR, compE, compD, yesT, seqD, listC, tupC, numd, zipd, nxS, frSl, retSl, retSls, retOk, retOks, tryAsS, tryOnlyS, lookB, kinE, xfE, lookF, frzE, isTR, isTB, allC, blsD, gU, raiseIS, at0, at1, at2, at3, lrE, sortC, intC, intsD, slE, intO, cutD, eqXR, slX, addT, repT, compX, compDx, kb, F_is_whole, isI, gtR]
          have eg : Int.gcd (a.natAbs : Int) b = Int.gcd a b := by simp [Int.gcd]
          by_cases b0 : 0 < b
          · rw [if_pos b0]
            have eh : (decide (0 < b) && decide (Int.gcd a b = 1)) = decide (Int.gcd a b = 1) := by simp [b0]
            rw [eh] at h
            simp [cE, vE, bE, rE, fE, mE, bin, nilA, consA, bT, andT, orT, notT, tupE, lstE, allV, allM, okB, intR, addR, asL, asT, asD, eqR, eqD_nn, eqD_bb, eqD_ii, eqD_ss, eqD_tt, eqD_ll, eqD_bi, eqD_ib, eqD_nt, eqD_tn, eqD_it, eqD_ti, eqD_ni, eqD_in, eqDs_nn, eqDs_cc, eqDs_nc, eqDs_cn, cmpD, cmpDs, depD, depDs, isNon, isNR, chainE, tvE, andV, orV, notV, ifE, slEV, ixR, callV, lenC, isiC, tyN, pick, retEV, callP, argD, argDs, seqS, bkS, ctS, exprS, retS, retNS, ifS, evSl, setS, SK.loop, gN, gNil, gCons, gT, asgS, parS, defF, defK, raiseS, absC, divmodC, mmC, stL, itL, itT, itR1, itR2, itE, shL, itZ, itV, forS, evD, methL, appL, clrL, popL, insL, trL, extL, setixS, argS, argSs, callI, callN, hereA, nextA, negE, itS, wipeR, compE, compD, yesT, seqD, listC, tupC, numd, zipd, nxS, frSl, retSl, retSls, retOk, retOks, tryAsS, tryOnlyS, lookB, kinE, xfE, lookF, frzE, isTR, isTB, allC, blsD, gU, raiseIS, at0, at1, at2, at3, lrE, sortC, intC, intsD, slE, intO, cutD, eqXR, slX, addT, repT, compX, compDx, F_size_of, F_divisor, eg]
            refine ⟨by omega, ?_⟩
            by_cases c : Int.gcd a b = 1
            · simp [c] at h ⊢; exact h
            · have cb : (((Int.gcd a b : Nat) : Int) == 1) = false := by
                have : ¬ ((Int.gcd a b : Nat) : Int) = 1 := by omega
                simpa using this
              simp [c] at h
              rw [cb]
              exact h
          · rw [if_neg b0]
            simp [b0] at h
            exact h
        · have e : isFr (.tup [.int a, y]) = false := by cases y <;> simp [isI] at hy <;> rfl
          rw [e] at h
          have i1 : isI (.int a) = some true := rfl
          simp [sf_is_fraction, cE, vE, bE, rE, fE, mE, bin, nilA, consA, bT, andT, orT, notT, tupE, lstE, allV, allM, okB, intR, addR, asL, asT, asD, eqR, eqD_nn, eqD_bb, eqD_ii, eqD_ss, eqD_tt, eqD_ll, eqD_bi, eqD_ib, eqD_nt, eqD_tn, eqD_it, eqD_ti, eqD_ni, eqD_in, eqDs_nn, eqDs_cc, eqDs_nc, eqDs_cn, cmpD, cmpDs, depD, depDs, isNon, isNR, chainE, tvE, andV, orV, notV, ifE, slEV, ixR, callV, lenC, isiC, tyN, pick, retEV, callP, argD, argDs, seqS, bkS, ctS, exprS, retS, retNS, ifS, evSl, setS, SK.loop, gN, gNil, gCons, gT, asgS, parS, defF, defK, raiseS, absC, divmodC, mmC, stL, itL, itT, itR1, itR2, itE, shL, itZ, itV, forS, evD, methL, appL, clrL, popL, insL, trL, extL, setixS, argS, argSs, callI, callN, hereA, nextA, negE, itS, wipeR, compE, compD, yesT, seqD, listC, tupC, numd, zipd, nxS, frSl, retSl, retSls, retOk, retOks, tryAsS, tryOnlyS, lookB, kinE, xfE, lookF, frzE, isTR, isTB, allC, blsD, gU, raiseIS, at0, at1, at2, at3, lrE, sortC, intC, intsD, slE, intO, cutD, eqXR, slX, addT, repT, compX, compDx, kb, F_is_whole, i1]
          rw [hy]
          simp
          exact h
      · have e : isFr (.tup [x, y]) = false := by cases x <;> simp [isI] at hx <;> rfl
        rw [e] at h
        simp [sf_is_fraction, cE, vE, bE, rE, fE, mE, bin, nilA, consA, bT, andT, orT, notT, tupE, lstE, allV, allM, okB, intR, addR, asL, asT, asD, eqR, eqD_nn, eqD_bb, eqD_ii, eqD_ss, eqD_tt, eqD_ll, eqD_bi, eqD_ib, eqD_nt, eqD_tn, eqD_it, eqD_ti, eqD_ni, eqD_in, eqDs_nn, eqDs_cc, eqDs_nc, eqDs_cn, cmpD, cmpDs, depD, depDs, isNon, isNR, chainE, tvE, andV, orV, notV, ifE, slEV, ixR, callV, lenC, isiC, tyN, pick, retEV, callP, argD, argDs, seqS, bkS, ctS, exprS, retS, retNS, ifS, evSl, setS, SK.loop, gN, gNil, gCons, gT, asgS, parS, defF, defK, raiseS, absC, divmodC, mmC, stL, itL, itT, itR1, itR2, itE, shL, itZ, itV, forS, evD, methL, appL, clrL, popL, insL, trL, extL, setixS, argS, argSs, callI, callN, hereA, nextA, negE, itS, wipeR, compE, compD, yesT, seqD, listC, tupC, numd, zipd, nxS, frSl, retSl, retSls, retOk, retOks, tryAsS, tryOnlyS, lookB, kinE, xfE, lookF, frzE, isTR, isTB, allC, blsD, gU, raiseIS, at0, at1, at2, at3, lrE, sortC, intC, intsD, slE, intO, cutD, eqXR, slX, addT, repT, compX, compDx, kb, F_is_whole]
        rw [hx]
        simp
        exact h
theorem to__law_odd : ∀ ss K E, F__law_odd ss K E → defF [true] 1 sf__law_odd ss K E := fun ss K E h => by
  obtain ⟨n, rfl, h⟩ := h
  simp [sf__law_odd, cE, vE, bE, rE, fE, mE, bin, nilA, consA, bT, andT, orT, notT, tupE, lstE, allV, allM, okB, intR, addR, asL, asT, asD, eqR, eqD_nn, eqD_bb, eqD_ii, eqD_ss, eqD_tt, eqD_ll, eqD_bi, eqD_ib, eqD_nt, eqD_tn, eqD_it, eqD_ti, eqD_ni, eqD_in, eqDs_nn, eqDs_cc, eqDs_nc, eqDs_cn, cmpD, cmpDs, depD, depDs, isNon, isNR, chainE, tvE, andV, orV, notV, ifE, slEV, ixR, callV, lenC, isiC, tyN, pick, retEV, callP, argD, argDs, seqS, bkS, ctS, exprS, retS, retNS, ifS, evSl, setS, SK.loop, gN, gNil, gCons, gT, asgS, parS, defF, defK, raiseS, absC, divmodC, mmC, stL, itL, itT, itR1, itR2, itE, shL, itZ, itV, forS, evD, methL, appL, clrL, popL, insL, trL, extL, setixS, argS, argSs, callI, callN, hereA, nextA, negE, itS, wipeR, compE, compD, yesT, seqD, listC, tupC, numd, zipd, nxS, frSl, retSl, retSls, retOk, retOks, tryAsS, tryOnlyS, lookB, kinE, xfE, lookF, frzE, isTR, isTB, allC, blsD, gU, raiseIS, at0, at1, at2, at3, lrE, sortC, intC, intsD, slE, intO, cutD, eqXR, slX, addT, repT, compX, compDx, F__law_take]
  refine ⟨by unfold Si; decide, fun k n' k0 k1 => ?_⟩
  have : k = 0 ∨ k = 1 ∨ k = 2 ∨ k = 3 ∨ k = 4 ∨ k = 5 ∨ k = 6 ∨ k = 7 ∨ k = 8 := by omega
  have : ∃ d, L2.atI [D.non, D.bl true, D.bl false, D.str (Str.ofString "1"), D.str (Str.ofString ""), D.tup [D.int 1, D.int 1], D.lst true [D.int 1], D.dct [Sum.inr (Str.ofString "a")] [D.int 1], D.tup []] k = some d ∧ oddOk d ∧ retOk d = true := by
    rcases this with rfl | rfl | rfl | rfl | rfl | rfl | rfl | rfl | rfl <;> refine ⟨_, rfl, ?_, by simp [retOk, retOks]⟩ <;> simp [oddOk]
  obtain ⟨d, e, od, rd⟩ := this
  rw [e]
  exact ⟨rd, h d n' od⟩
theorem fit_eq {a b : Int} (hb : 0 < b) : (((a : Rat) / (b : Rat)).num = a ∧ (((a : Rat) / (b : Rat)).den : Int) = b) ↔ Int.gcd a b = 1 := by
  rw [frac_num (by omega), frac_den (by omega), if_neg (by omega)]
  have g0 : (0 : Int) < (Int.gcd a b : Int) := gcd_pos (by omega)
  have hd : ((Int.gcd a b : Nat) : Int) ∣ b := Int.gcd_dvd_right ..
  constructor
  · rintro ⟨_, h⟩
    obtain ⟨c, hc⟩ := hd
    generalize Int.gcd a b = g at *
    rw [Int.fdiv_eq_ediv_of_dvd ⟨c, hc⟩] at h
    rw [hc, Int.mul_ediv_cancel_left _ (by omega)] at h
    have c0 : c ≠ 0 := fun z => by rw [z] at hc; omega
    have : ((g : Nat) : Int) = 1 := by
      have h2 : ((g : Nat) : Int) * c = 1 * c := by rw [← h]; omega
      exact Int.eq_of_mul_eq_mul_right c0 h2
    omega
  · intro h
    rw [h]
    simp
end VS
set_option Elab.async false
set_option linter.all false
set_option maxRecDepth 100000
set_option maxHeartbeats 4000000
/-! VM16: what is a body, a world; the worlds that the laws draw. Own work. -/
namespace VS
open PySem PySem.Spec PyProof.Rows
open L2 (V Hp Cx WX)
/-- a thing that may be asked whether it is a fraction -/
def okQ : D → Prop
  | .tup [x, y] => isI x ≠ none ∧ isI y ≠ none ∧ (match x with | .int a => Si 4000 a | _ => True) ∧ (match y with | .int b => Si 4000 b | _ => True)
  | .ty _ => False
  | .fn _ => False
  | _ => True
def wtD : D → Bool
  | .int m => decide (1 ≤ m) && decide (m ≤ 1000)
  | _ => false
theorem okQ_F {d : D} (h : okQ d) : okF d := by
  unfold okF
  split
  · exact ⟨h.1, h.2.1⟩
  · exact h
  · exact h
  · trivial
theorem isFr_D (q : Rat) : isFr (frD q) = true := by
  show (decide _ && decide _) = true
  have h1 : 0 < (q.den : Int) := den_pos q
  have h2 : Int.gcd q.num q.den = 1 := q.reduced
  have h3 : 0 < q.den := q.den_pos
  simp [h3, h2]
theorem okQ_D {q : Rat} (h : Sm 4000 q) : okQ (frD q) := ⟨by simp [isI], by simp [isI], h.1, h.2⟩
theorem frD_int (x : Int) : frD (x : Rat) = .tup [.int x, .int 1] := by
  show D.tup [.int ((x : Rat)).num, .int (((x : Rat)).den : Int)] = _
  rw [Rat.num_intCast, Rat.den_intCast]
  rfl
/-! bodies -/
def okBd : D → Prop
  | .tup [a, b, m] => okQ a ∧ okQ b ∧ isI m ≠ none
  | .ty _ => False
  | .fn _ => False
  | _ => True
def isBd : D → Bool
  | .tup [a, b, m] => (isFr a && isFr b) && wtD m
  | _ => false
def F_is_body : FS := fun ss K _ => ∃ d, ss = [.v d] ∧ okBd d ∧ K (.v (.bl (isBd d))) []
def optD : Option Nat → D
  | none => .non
  | some k => .int (k : Nat)
def SmallOk (q : Rat) : Prop := ∃ k : Int, q = (k : Rat) / 6 ∧ -72 ≤ k ∧ k ≤ 72
def F__law_small : FS := fun ss K _ => match ss with
  | [.l [.int _]] => ∀ q n', SmallOk q → K (.v (frD q)) [.l [.int n']]
  | _ => False
theorem m__law_small : MonoF F__law_small := fun ss K K' E E' hk he h => by
  unfold F__law_small at h ⊢
  split at h <;> first | exact h.elim | exact hk _ _ h | exact ⟨h.1, hk _ _ h.2⟩ | (intros; apply hk; apply h <;> assumption) | (refine ⟨h.1, ?_⟩; intros; apply hk; apply h.2 <;> assumption)
/-- a body of a drawn world -/
structure WOk (b : Bw) : Prop where
  p : ∃ k : Int, b.p = (k : Rat) / 6 ∧ -2000 ≤ k ∧ k ≤ 2000
  u : SmallOk b.u
  m1 : 1 ≤ b.m
  m2 : b.m ≤ 1000
structure WorldD (bs : List Bw) : Prop where
  ne : bs ≠ []
  le : bs.length ≤ 12
  ok : ∀ b ∈ bs, WOk b
  up : bs.Pairwise fun a b => a.p < b.p
def F__law_world : FS := fun ss K _ => ∃ n : Int, ss = [.l [.int n]] ∧ ∀ bs n', WorldD bs → K (.m (.l (bs.map wD))) [.l [.int n']]
theorem m__law_world : MonoF F__law_world := fun ss K K' E E' hk he ⟨n, h1, h2⟩ => ⟨n, h1, fun q n' h => hk _ _ (h2 q n' h)⟩
theorem m_is_body : MonoF F_is_body := fun ss K K' E E' hk he ⟨d, h1, h2, h3⟩ => ⟨d, h1, h2, hk _ _ h3⟩
def sf_is_body : SS := (seqS (ifS (orT (notT (bT (callV (isiC kb) (consA true (vE 0) (consA true (cE (.ty "tuple")) nilA))))) (bT (bin true (callV lenC (consA true (vE 0) nilA)) (cE (.int 3)) (eqR true)))) (retS (cE (.bl false))) nxS)
  (seqS (ifS (orT (notT (bT (callP F_is_fraction [] (consA true (bin true (vE 0) (cE (.int 0)) ixR) nilA)))) (notT (bT (callP F_is_fraction [] (consA true (bin true (vE 0) (cE (.int 1)) ixR) nilA))))) (retS (cE (.bl false))) nxS)
  (retS (andV (callP F_is_whole [] (consA true (bin true (vE 0) (cE (.int 2)) ixR) nilA)) (chainE true true (fun i j => decide (i ≤ j)) (fun i j => decide (i ≤ j)) (cE (.int 1)) (bin true (vE 0) (cE (.int 2)) ixR) (cE (.int (1000))))))))
def sf__law_small : SS := (retS (callP F__law_fit [] (consA false (bin true (callI F__law_take 0 (hereA 0 (consA true (cE (.int 25)) nilA))) (cE (.int 12)) (intR (fun _ _ => True) fun i j => .int (i - j))) (consA true (bin false (lstE (consA true (cE (.int 1)) (consA true (cE (.int 1)) (consA true (cE (.int 2)) (consA true (cE (.int 3)) nilA))))) (callI F__law_take 0 (hereA 0 (consA true (cE (.int 4)) nilA))) ixR) nilA))))
def sf__law_world : SS := (seqS (setS 1 true (bin false (cE (.int 1)) (callI F__law_take 0 (hereA 0 (consA true (bin false (lstE (consA true (cE (.int 5)) (consA true (cE (.int 5)) (consA true (cE (.int 5)) (consA true (cE (.int 12)) nilA))))) (callI F__law_take 0 (hereA 0 (consA true (cE (.int 4)) nilA))) ixR) nilA))) addR))
  (seqS (setS 2 true (bin true (callI F__law_take 0 (hereA 0 (consA true (cE (.int 4)) nilA))) (cE (.int 3)) (eqR false)))
  (seqS (setS 3 true (callI F__law_small 0 (hereA 0 nilA)))
  (seqS (setS 4 false (lstE nilA))
  (seqS (forS (itR1 (consA true (vE 1) nilA)) (gN 5 true) (seqS (setS 6 true (bin false (cE (.int 1)) (callI F__law_take 0 (hereA 0 (consA true (bin false (lstE (consA true (cE (.int 5)) (consA true (cE (.int 5)) (consA true (cE (.int 1000)) nilA)))) (callI F__law_take 0 (hereA 0 (consA true (cE (.int 3)) nilA))) ixR) nilA))) addR))
  (seqS (ifS (andT (bT (vE 2)) (bT (bin true (rE 4) (lstE nilA) (eqR true)))) (setS 6 true (bin true (bin true (rE 4) (cE (.int 0)) ixR) (cE (.int 2)) ixR)) nxS)
  (seqS (exprS (methL 4 appL (consA true (tupE (consA false (vE 3) (consA true (callI F__law_small 0 (hereA 0 nilA)) (consA true (vE 6) nilA)))) nilA)))
  (setS 3 true (callP F__law_plus [] (consA false (vE 3) (consA true (callP F__law_fit [] (consA false (bin false (cE (.int 1)) (callI F__law_take 0 (hereA 0 (consA true (cE (.int 9)) nilA))) addR) (consA true (bin false (cE (.int 1)) (callI F__law_take 0 (hereA 0 (consA true (cE (.int 3)) nilA))) addR) nilA))) nilA))))))))
  (retS (mE 4)))))))
theorem isBd_out {ds : List D} (h : ds.length ≠ 3) : isBd (.tup ds) = false := by
  match ds, h with
  | [], _ => rfl
  | [_], _ => rfl
  | [_, _], _ => rfl
  | [_, _, _], h => exact (h rfl).elim
  | _ :: _ :: _ :: _ :: _, _ => rfl
theorem three {ds : List D} (h : ds.length = 3) : ∃ a b c, ds = [a, b, c] := by
  match ds, h with
  | [a, b, c], _ => exact ⟨a, b, c, rfl⟩
theorem to_is_body : ∀ ss K E, F_is_body ss K E → defF [false] 1 sf_is_body ss K E := fun ss K E h => by
  obtain ⟨d, rfl, ok, h⟩ := h
  cases d with
  | ty _ => exact ok.elim
  | fn _ => exact ok.elim
  | int i => simp [sf_is_body, cE, vE, bE, rE, fE, mE, bin, nilA, consA, bT, andT, orT, notT, tupE, lstE, allV, allM, okB, intR, addR, asL, asT, asD, eqR, eqD_nn, eqD_bb, eqD_ii, eqD_ss, eqD_tt, eqD_ll, eqD_bi, eqD_ib, eqD_nt, eqD_tn, eqD_it, eqD_ti, eqD_ni, eqD_in, eqDs_nn, eqDs_cc, eqDs_nc, eqDs_cn, cmpD, cmpDs, depD, depDs, isNon, isNR, chainE, tvE, andV, orV, notV, ifE, slEV, ixR, callV, lenC, isiC, tyN, pick, retEV, callP, argD, argDs, seqS, bkS, ctS, exprS, retS, retNS, ifS, evSl, setS, SK.loop, gN, gNil, gCons, gT, asgS, parS, defF, defK, raiseS, absC, divmodC, mmC, stL, itL, itT, itR1, itR2, itE, shL, itZ, itV, forS, evD, methL, appL, clrL, popL, insL, trL, extL, setixS, argS, argSs, callI, callN, hereA, nextA, negE, itS, wipeR, compE, compD, yesT, seqD, listC, tupC, numd, zipd, nxS, frSl, retSl, retSls, retOk, retOks, tryAsS, tryOnlyS, lookB, kinE, xfE, lookF, frzE, isTR, isTB, allC, blsD, gU, raiseIS, at0, at1, at2, at3, lrE, sortC, intC, intsD, slE, intO, cutD, eqXR, slX, addT, repT, compX, compDx, neYR, lrevE, kb]; exact h
  | bl b => simp [sf_is_body, cE, vE, bE, rE, fE, mE, bin, nilA, consA, bT, andT, orT, notT, tupE, lstE, allV, allM, okB, intR, addR, asL, asT, asD, eqR, eqD_nn, eqD_bb, eqD_ii, eqD_ss, eqD_tt, eqD_ll, eqD_bi, eqD_ib, eqD_nt, eqD_tn, eqD_it, eqD_ti, eqD_ni, eqD_in, eqDs_nn, eqDs_cc, eqDs_nc, eqDs_cn, cmpD, cmpDs, depD, depDs, isNon, isNR, chainE, tvE, andV, orV, notV, ifE, slEV, ixR, callV, lenC, isiC, tyN, pick, retEV, callP, argD, argDs, seqS, bkS, ctS, exprS, retS, retNS, ifS, evSl, setS, SK.loop, gN, gNil, gCons, gT, asgS, parS, defF, defK, raiseS, absC, divmodC, mmC, stL, itL, itT, itR1, itR2, itE, shL, itZ, itV, forS, evD, methL, appL, clrL, popL, insL, trL, extL, setixS, argS, argSs, callI, callN, hereA, nextA, negE, itS, wipeR, compE, compD, yesT, seqD, listC, tupC, numd, zipd, nxS, frSl, retSl, retSls, retOk, retOks, tryAsS, tryOnlyS, lookB, kinE, xfE, lookF, frzE, isTR, isTB, allC, blsD, gU, raiseIS, at0, at1, at2, at3, lrE, sortC, intC, intsD, slE, intO, cutD, eqXR, slX, addT, repT, compX, compDx, neYR, lrevE, kb]; exact h
  | non => simp [sf_is_body, cE, vE, bE, rE, fE, mE, bin, nilA, consA, bT, andT, orT, notT, tupE, lstE, allV, allM, okB, intR, addR, asL, asT, asD, eqR, eqD_nn, eqD_bb, eqD_ii, eqD_ss, eqD_tt, eqD_ll, eqD_bi, eqD_ib, eqD_nt, eqD_tn, eqD_it, eqD_ti, eqD_ni, eqD_in, eqDs_nn, eqDs_cc, eqDs_nc, eqDs_cn, cmpD, cmpDs, depD, depDs, isNon, isNR, chainE, tvE, andV, orV, notV, ifE, slEV, ixR, callV, lenC, isiC, tyN, pick, retEV, callP, argD, argDs, seqS, bkS, ctS, exprS, retS, retNS, ifS, evSl, setS, SK.loop, gN, gNil, gCons, gT, asgS, parS, defF, defK, raiseS, absC, divmodC, mmC, stL, itL, itT, itR1, itR2, itE, shL, itZ, itV, forS, evD, methL, appL, clrL, popL, insL, trL, extL, setixS, argS, argSs, callI, callN, hereA, nextA, negE, itS, wipeR, compE, compD, yesT, seqD, listC, tupC, numd, zipd, nxS, frSl, retSl, retSls, retOk, retOks, tryAsS, tryOnlyS, lookB, kinE, xfE, lookF, frzE, isTR, isTB, allC, blsD, gU, raiseIS, at0, at1, at2, at3, lrE, sortC, intC, intsD, slE, intO, cutD, eqXR, slX, addT, repT, compX, compDx, neYR, lrevE, kb]; exact h
  | str s => simp [sf_is_body, cE, vE, bE, rE, fE, mE, bin, nilA, consA, bT, andT, orT, notT, tupE, lstE, allV, allM, okB, intR, addR, asL, asT, asD, eqR, eqD_nn, eqD_bb, eqD_ii, eqD_ss, eqD_tt, eqD_ll, eqD_bi, eqD_ib, eqD_nt, eqD_tn, eqD_it, eqD_ti, eqD_ni, eqD_in, eqDs_nn, eqDs_cc, eqDs_nc, eqDs_cn, cmpD, cmpDs, depD, depDs, isNon, isNR, chainE, tvE, andV, orV, notV, ifE, slEV, ixR, callV, lenC, isiC, tyN, pick, retEV, callP, argD, argDs, seqS, bkS, ctS, exprS, retS, retNS, ifS, evSl, setS, SK.loop, gN, gNil, gCons, gT, asgS, parS, defF, defK, raiseS, absC, divmodC, mmC, stL, itL, itT, itR1, itR2, itE, shL, itZ, itV, forS, evD, methL, appL, clrL, popL, insL, trL, extL, setixS, argS, argSs, callI, callN, hereA, nextA, negE, itS, wipeR, compE, compD, yesT, seqD, listC, tupC, numd, zipd, nxS, frSl, retSl, retSls, retOk, retOks, tryAsS, tryOnlyS, lookB, kinE, xfE, lookF, frzE, isTR, isTB, allC, blsD, gU, raiseIS, at0, at1, at2, at3, lrE, sortC, intC, intsD, slE, intO, cutD, eqXR, slX, addT, repT, compX, compDx, neYR, lrevE, kb]; exact h
  | lst s ds => simp [sf_is_body, cE, vE, bE, rE, fE, mE, bin, nilA, consA, bT, andT, orT, notT, tupE, lstE, allV, allM, okB, intR, addR, asL, asT, asD, eqR, eqD_nn, eqD_bb, eqD_ii, eqD_ss, eqD_tt, eqD_ll, eqD_bi, eqD_ib, eqD_nt, eqD_tn, eqD_it, eqD_ti, eqD_ni, eqD_in, eqDs_nn, eqDs_cc, eqDs_nc, eqDs_cn, cmpD, cmpDs, depD, depDs, isNon, isNR, chainE, tvE, andV, orV, notV, ifE, slEV, ixR, callV, lenC, isiC, tyN, pick, retEV, callP, argD, argDs, seqS, bkS, ctS, exprS, retS, retNS, ifS, evSl, setS, SK.loop, gN, gNil, gCons, gT, asgS, parS, defF, defK, raiseS, absC, divmodC, mmC, stL, itL, itT, itR1, itR2, itE, shL, itZ, itV, forS, evD, methL, appL, clrL, popL, insL, trL, extL, setixS, argS, argSs, callI, callN, hereA, nextA, negE, itS, wipeR, compE, compD, yesT, seqD, listC, tupC, numd, zipd, nxS, frSl, retSl, retSls, retOk, retOks, tryAsS, tryOnlyS, lookB, kinE, xfE, lookF, frzE, isTR, isTB, allC, blsD, gU, raiseIS, at0, at1, at2, at3, lrE, sortC, intC, intsD, slE, intO, cutD, eqXR, slX, addT, repT, compX, compDx, neYR, lrevE, kb]; exact h
  | dct ks ds => simp [sf_is_body, cE, vE, bE, rE, fE, mE, bin, nilA, consA, bT, andT, orT, notT, tupE, lstE, allV, allM, okB, intR, addR, asL, asT, asD, eqR, eqD_nn, eqD_bb, eqD_ii, eqD_ss, eqD_tt, eqD_ll, eqD_bi, eqD_ib, eqD_nt, eqD_tn, eqD_it, eqD_ti, eqD_ni, eqD_in, eqDs_nn, eqDs_cc, eqDs_nc, eqDs_cn, cmpD, cmpDs, depD, depDs, isNon, isNR, chainE, tvE, andV, orV, notV, ifE, slEV, ixR, callV, lenC, isiC, tyN, pick, retEV, callP, argD, argDs, seqS, bkS, ctS, exprS, retS, retNS, ifS, evSl, setS, SK.loop, gN, gNil, gCons, gT, asgS, parS, defF, defK, raiseS, absC, divmodC, mmC, stL, itL, itT, itR1, itR2, itE, shL, itZ, itV, forS, evD, methL, appL, clrL, popL, insL, trL, extL, setixS, argS, argSs, callI, callN, hereA, nextA, negE, itS, wipeR, compE, compD, yesT, seqD, listC, tupC, numd, zipd, nxS, frSl, retSl, retSls, retOk, retOks, tryAsS, tryOnlyS, lookB, kinE, xfE, lookF, frzE, isTR, isTB, allC, blsD, gU, raiseIS, at0, at1, at2, at3, lrE, sortC, intC, intsD, slE, intO, cutD, eqXR, slX, addT, repT, compX, compDx, neYR, lrevE, kb]; exact h
  | tup ds =>
    by_cases hl : ds.length = 3
    · obtain ⟨a, b, m, rfl⟩ := three hl
      obtain ⟨ka, kb', km⟩ := ok
      have e : isBd (.tup [a, b, m]) = ((isFr a && isFr b) && wtD m) := rfl
      rw [e] at h
      simp [sf_is_body, cE, vE, bE, rE, fE, mE, bin, nilA, consA, bT, andT, orT, notT, tupE, lstE, allV, allM, okB, intR, addR, asL, asT, asD, eqR, eqD_nn, eqD_bb, eqD_ii, eqD_ss, eqD_tt, eqD_ll, eqD_bi, eqD_ib, eqD_nt, eqD_tn, eqD_it, eqD_ti, eqD_ni, eqD_in, eqDs_nn, eqDs_cc, eqDs_nc, eqDs_cn, cmpD, cmpDs, depD, depDs, isNon, isNR, chainE, tvE, andV, orV, notV, ifE, slEV, ixR, callV, lenC, isiC, tyN, pick, retEV, callP, argD, argDs, seqS, bkS, ctS, exprS, retS, retNS, ifS, evSl, setS, SK.loop, gN, gNil, gCons, gT, asgS, parS, defF, defK, raiseS, absC, divmodC, mmC, stL, itL, itT, itR1, itR2, itE, shL, itZ, itV, forS, evD, methL, appL, clrL, popL, insL, trL, extL, setixS, argS, argSs, callI, callN, hereA, nextA, negE, itS, wipeR, compE, compD, yesT, seqD, listC, tupC, numd, zipd, nxS, frSl, retSl, retSls, retOk, retOks, tryAsS, tryOnlyS, lookB, kinE, xfE, lookF, frzE, isTR, isTB, allC, blsD, gU, raiseIS, at0, at1, at2, at3, lrE, sortC, intC, intsD, slE, intO, cutD, eqXR, slX, addT, repT, compX, compDx, neYR, lrevE, kb]
      refine ⟨a, rfl, okQ_F ka, ?_⟩
      by_cases fa : isFr a = true
      · simp [fa, cE, vE, bE, rE, fE, mE, bin, nilA, consA, bT, andT, orT, notT, tupE, lstE, allV, allM, okB, intR, addR, asL, asT, asD, eqR, eqD_nn, eqD_bb, eqD_ii, eqD_ss, eqD_tt, eqD_ll, eqD_bi, eqD_ib, eqD_nt, eqD_tn, eqD_it, eqD_ti, eqD_ni, eqD_in, eqDs_nn, eqDs_cc, eqDs_nc, eqDs_cn, cmpD, cmpDs, depD, depDs, isNon, isNR, chainE, tvE, andV, orV, notV, ifE, slEV, ixR, callV, lenC, isiC, tyN, pick, retEV, callP, argD, argDs, seqS, bkS, ctS, exprS, retS, retNS, ifS, evSl, setS, SK.loop, gN, gNil, gCons, gT, asgS, parS, defF, defK, raiseS, absC, divmodC, mmC, stL, itL, itT, itR1, itR2, itE, shL, itZ, itV, forS, evD, methL, appL, clrL, popL, insL, trL, extL, setixS, argS, argSs, callI, callN, hereA, nextA, negE, itS, wipeR, compE, compD, yesT, seqD, listC, tupC, numd, zipd, nxS, frSl, retSl, retSls, retOk, retOks, tryAsS, tryOnlyS, lookB, kinE, xfE, lookF, frzE, isTR, isTB, allC, blsD, gU, raiseIS, at0, at1, at2, at3, lrE, sortC, intC, intsD, slE, intO, cutD, eqXR, slX, addT, repT, compX, compDx, neYR, lrevE]
        refine ⟨b, rfl, okQ_F kb', ?_⟩
        by_cases fb : isFr b = true
        · simp [fb, fa] at h
          simp [fb, cE, vE, bE, rE, fE, mE, bin, nilA, consA, bT, andT, orT, notT, tupE, lstE, allV, allM, okB, intR, addR, asL, asT, asD, eqR, eqD_nn, eqD_bb, eqD_ii, eqD_ss, eqD_tt, eqD_ll, eqD_bi, eqD_ib, eqD_nt, eqD_tn, eqD_it, eqD_ti, eqD_ni, eqD_in, eqDs_nn, eqDs_cc, eqDs_nc, eqDs_cn, cmpD, cmpDs, depD, depDs, isNon, isNR, chainE, tvE, andV, orV, notV, ifE, slEV, ixR, callV, lenC, isiC, tyN, pick, retEV, callP, argD, argDs, seqS, bkS, ctS, exprS, retS, retNS, ifS, evSl, setS, SK.loop, gN, gNil, gCons, gT, asgS, parS, defF, defK, raiseS, absC, divmodC, mmC, stL, itL, itT, itR1, itR2, itE, shL, itZ, itV, forS, evD, methL, appL, clrL, popL, insL, trL, extL, setixS, argS, argSs, callI, callN, hereA, nextA, negE, itS, wipeR, compE, compD, yesT, seqD, listC, tupC, numd, zipd, nxS, frSl, retSl, retSls, retOk, retOks, tryAsS, tryOnlyS, lookB, kinE, xfE, lookF, frzE, isTR, isTB, allC, blsD, gU, raiseIS, at0, at1, at2, at3, lrE, sortC, intC, intsD, slE, intO, cutD, eqXR, slX, addT, repT, compX, compDx, neYR, lrevE, F_is_whole]
          rcases isI_not km with ⟨i, rfl⟩ | hx
          · have wi : wtD (.int i) = (decide (1 ≤ i) && decide (i ≤ 1000)) := rfl
            have i1 : isI (.int i) = some true := rfl
            rw [wi] at h
            simp [i1, cE, vE, bE, rE, fE, mE, bin, nilA, consA, bT, andT, orT, notT, tupE, lstE, allV, allM, okB, intR, addR, asL, asT, asD, eqR, eqD_nn, eqD_bb, eqD_ii, eqD_ss, eqD_tt, eqD_ll, eqD_bi, eqD_ib, eqD_nt, eqD_tn, eqD_it, eqD_ti, eqD_ni, eqD_in, eqDs_nn, eqDs_cc, eqDs_nc, eqDs_cn, cmpD, cmpDs, depD, depDs, isNon, isNR, chainE, tvE, andV, orV, notV, ifE, slEV, ixR, callV, lenC, isiC, tyN, pick, retEV, callP, argD, argDs, seqS, bkS, ctS, exprS, retS, retNS, ifS, evSl, setS, SK.loop, gN, gNil, gCons, gT, asgS, parS, defF, defK, raiseS, absC, divmodC, mmC, stL, itL, itT, itR1, itR2, itE, shL, itZ, itV, forS, evD, methL, appL, clrL, popL, insL, trL, extL, setixS, argS, argSs, callI, callN, hereA, nextA, negE, itS, wipeR, compE, compD, yesT, seqD, listC, tupC, numd, zipd, nxS, frSl, retSl, retSls, retOk, retOks, tryAsS, tryOnlyS, lookB, kinE, xfE, lookF, frzE, isTR, isTB, allC, blsD, gU, raiseIS, at0, at1, at2, at3, lrE, sortC, intC, intsD, slE, intO, cutD, eqXR, slX, addT, repT, compX, compDx, neYR, lrevE]
            by_cases c : 1 ≤ i
            · rw [if_pos c]
              simp [c] at h
              exact h
            · rw [if_neg c]
              simp [c] at h
              exact h
          · rw [hx]
            have wi : wtD m = false := by cases m <;> simp [isI] at hx <;> rfl
            rw [wi] at h
            simp
            exact h
        · have fb : isFr b = false := by simpa using fb
          simp [fb] at h ⊢
          exact h
      · have fa : isFr a = false := by simpa using fa
        simp [fa] at h ⊢
        exact h
    · have hne : ¬ ((ds.length : Int) = 3) := by omega
      rw [isBd_out hl] at h
      simp [sf_is_body, cE, vE, bE, rE, fE, mE, bin, nilA, consA, bT, andT, orT, notT, tupE, lstE, allV, allM, okB, intR, addR, asL, asT, asD, eqR, eqD_nn, eqD_bb, eqD_ii, eqD_ss, eqD_tt, eqD_ll, eqD_bi, eqD_ib, eqD_nt, eqD_tn, eqD_it, eqD_ti, eqD_ni, eqD_in, eqDs_nn, eqDs_cc, eqDs_nc, eqDs_cn, cmpD, cmpDs, depD, depDs, isNon, isNR, chainE, tvE, andV, orV, notV, ifE, slEV, ixR, callV, lenC, isiC, tyN, pick, retEV, callP, argD, argDs, seqS, bkS, ctS, exprS, retS, retNS, ifS, evSl, setS, SK.loop, gN, gNil, gCons, gT, asgS, parS, defF, defK, raiseS, absC, divmodC, mmC, stL, itL, itT, itR1, itR2, itE, shL, itZ, itV, forS, evD, methL, appL, clrL, popL, insL, trL, extL, setixS, argS, argSs, callI, callN, hereA, nextA, negE, itS, wipeR, compE, compD, yesT, seqD, listC, tupC, numd, zipd, nxS, frSl, retSl, retSls, retOk, retOks, tryAsS, tryOnlyS, lookB, kinE, xfE, lookF, frzE, isTR, isTB, allC, blsD, gU, raiseIS, at0, at1, at2, at3, lrE, sortC, intC, intsD, slE, intO, cutD, eqXR, slX, addT, repT, compX, compDx, neYR, lrevE, kb, hne]
      exact h
theorem atN {α : Type} {xs : List α} {i : Nat} {x : α} (h : xs[i]? = some x) : L2.atI xs (i : Int) = some x := by
  have hl := (List.getElem?_eq_some_iff.mp h).1
  unfold L2.atI L2.ixN
  rw [if_pos (by omega), if_pos (by omega)]
  exact h
theorem p_sm {q : Rat} (h : ∃ k : Int, q = (k : Rat) / 6 ∧ -2000 ≤ k ∧ k ≤ 2000) : Sm 12 q := by
  obtain ⟨k, rfl, k0, k1⟩ := h
  exact (Sm.div (n := 12) (m := 8) (a := k) (b := 6) (by unfold Si; omega) (by unfold Si; decide) (by decide)).mono (by decide)
theorem pick4 {a b c d x : Int} (h0 : 0 ≤ x) (h1 : x < 4) : ∃ M : Int, L2.atI [D.int a, D.int b, D.int c, D.int d] x = some (.int M) ∧ (M = a ∨ M = b ∨ M = c ∨ M = d) := by
  have : x = 0 ∨ x = 1 ∨ x = 2 ∨ x = 3 := by omega
  rcases this with rfl | rfl | rfl | rfl
  · exact ⟨a, at0, .inl rfl⟩
  · exact ⟨b, at1, .inr (.inl rfl)⟩
  · exact ⟨c, at2, .inr (.inr (.inl rfl))⟩
  · exact ⟨d, at3, .inr (.inr (.inr rfl))⟩
theorem pick3'' {a b c x : Int} (h0 : 0 ≤ x) (h1 : x < 3) : ∃ M : Int, L2.atI [D.int a, D.int b, D.int c] x = some (.int M) ∧ (M = a ∨ M = b ∨ M = c) := by
  have : x = 0 ∨ x = 1 ∨ x = 2 := by omega
  rcases this with rfl | rfl | rfl
  · exact ⟨a, at0, .inl rfl⟩
  · exact ⟨b, at1, .inr (.inl rfl)⟩
  · exact ⟨c, at2, .inr (.inr rfl)⟩
/-- a fraction whose bottom is 1, 2 or 3, in sixths -/
theorem sixth {x M : Int} (h : M = 1 ∨ M = 2 ∨ M = 3) : ∃ k : Int, (x : Rat) / (M : Rat) = (k : Rat) / 6 ∧ (k = 6 * x ∨ k = 3 * x ∨ k = 2 * x) := by
  rcases h with rfl | rfl | rfl
  · exact ⟨6 * x, by rw [Rat.intCast_mul]; show (x : Rat) / ((1 : Int) : Rat) = ((6 : Int) : Rat) * x / 6; grind, .inl rfl⟩
  · exact ⟨3 * x, by rw [Rat.intCast_mul]; show (x : Rat) / ((2 : Int) : Rat) = ((3 : Int) : Rat) * x / 6; grind, .inr (.inl rfl)⟩
  · exact ⟨2 * x, by rw [Rat.intCast_mul]; show (x : Rat) / ((3 : Int) : Rat) = ((2 : Int) : Rat) * x / 6; grind, .inr (.inr rfl)⟩
theorem to__law_small : ∀ ss K E, F__law_small ss K E → defF [true] 1 sf__law_small ss K E := fun ss K E h => by
  unfold F__law_small at h
  split at h
  · simp [sf__law_small, cE, vE, bE, rE, fE, mE, bin, nilA, consA, bT, andT, orT, notT, tupE, lstE, allV, allM, okB, intR, addR, asL, asT, asD, eqR, eqD_nn, eqD_bb, eqD_ii, eqD_ss, eqD_tt, eqD_ll, eqD_bi, eqD_ib, eqD_nt, eqD_tn, eqD_it, eqD_ti, eqD_ni, eqD_in, eqDs_nn, eqDs_cc, eqDs_nc, eqDs_cn, cmpD, cmpDs, depD, depDs, isNon, isNR, chainE, tvE, andV, orV, notV, ifE, slEV, ixR, callV, lenC, isiC, tyN, pick, retEV, callP, argD, argDs, seqS, bkS, ctS, exprS, retS, retNS, ifS, evSl, setS, SK.loop, gN, gNil, gCons, gT, asgS, parS, defF, defK, raiseS, absC, divmodC, mmC, stL, itL, itT, itR1, itR2, itE, shL, itZ, itV, forS, evD, methL, appL, clrL, popL, insL, trL, extL, setixS, argS, argSs, callI, callN, hereA, nextA, negE, itS, wipeR, compE, compD, yesT, seqD, listC, tupC, numd, zipd, nxS, frSl, retSl, retSls, retOk, retOks, tryAsS, tryOnlyS, lookB, kinE, xfE, lookF, frzE, isTR, isTB, allC, blsD, gU, raiseIS, at0, at1, at2, at3, lrE, sortC, intC, intsD, slE, intO, cutD, eqXR, slX, addT, repT, compX, compDx, neYR, lrevE, F__law_take, F__law_fit]
    refine ⟨by unfold Si; decide, fun x x0 x1 => ⟨by unfold Si; decide, fun y n' y0 y1 => ?_⟩⟩
    obtain ⟨M, hM, hm⟩ := pick4 (a := 1) (b := 1) (c := 2) (d := 3) y0 y1
    rw [hM]
    have hm3 : M = 1 ∨ M = 2 ∨ M = 3 := by omega
    obtain ⟨k, ek, hk⟩ := sixth (x := x - 12) hm3
    have := h (((x - 12 : Int) : Rat) / (M : Rat)) n' ⟨k, ek, by omega, by omega⟩
    exact ⟨⟨by omega, by unfold Si; omega⟩, this⟩
  · exact h.elim
theorem to__law_world : ∀ ss K E, F__law_world ss K E → defF [true] 7 sf__law_world ss K E := fun ss K E h => by
  obtain ⟨n, rfl, h⟩ := h
  simp [sf__law_world, cE, vE, bE, rE, fE, mE, bin, nilA, consA, bT, andT, orT, notT, tupE, lstE, allV, allM, okB, intR, addR, asL, asT, asD, eqR, eqD_nn, eqD_bb, eqD_ii, eqD_ss, eqD_tt, eqD_ll, eqD_bi, eqD_ib, eqD_nt, eqD_tn, eqD_it, eqD_ti, eqD_ni, eqD_in, eqDs_nn, eqDs_cc, eqDs_nc, eqDs_cn, cmpD, cmpDs, depD, depDs, isNon, isNR, chainE, tvE, andV, orV, notV, ifE, slEV, ixR, callV, lenC, isiC, tyN, pick, retEV, callP, argD, argDs, seqS, bkS, ctS, exprS, retS, retNS, ifS, evSl, setS, SK.loop, gN, gNil, gCons, gT, asgS, parS, defF, defK, raiseS, absC, divmodC, mmC, stL, itL, itT, itR1, itR2, itE, shL, itZ, itV, forS, evD, methL, appL, clrL, popL, insL, trL, extL, setixS, argS, argSs, callI, callN, hereA, nextA, negE, itS, wipeR, compE, compD, yesT, seqD, listC, tupC, numd, zipd, nxS, frSl, retSl, retSls, retOk, retOks, tryAsS, tryOnlyS, lookB, kinE, xfE, lookF, frzE, isTR, isTB, allC, blsD, gU, raiseIS, at0, at1, at2, at3, lrE, sortC, intC, intsD, slE, intO, cutD, eqXR, slX, addT, repT, compX, compDx, neYR, lrevE, F__law_take]
  refine ⟨by unfold Si; decide, fun x n0 x0 x1 => ?_⟩
  obtain ⟨N, hN, hn⟩ := pick4 (a := 5) (b := 5) (c := 5) (d := 12) x0 x1
  rw [hN]
  refine ⟨⟨by omega, by unfold Si; omega⟩, fun m m0 m1 => ⟨by unfold Si; decide, fun y n1 y0 y1 => ?_⟩⟩
  simp [F__law_small]
  refine fun q n2 hq => ⟨by omega, ?_⟩
  obtain ⟨kq, eq0, kq0, kq1⟩ := hq
  refine loop_inv (fun j ρ => ∃ n' q bs x5 x6, ρ = [.l [.int n'], .v (.int (1 + m)), .v (.bl (y == 3)), .v (frD q), .l (bs.map wD), x5, x6] ∧ (∃ k : Int, q = (k : Rat) / 6 ∧ -72 ≤ k ∧ k ≤ 72 + 54 * j) ∧ bs.length = j ∧ (∀ b ∈ bs, WOk b ∧ b.p < q) ∧ bs.Pairwise fun a b => a.p < b.p) ⟨n2, q, [], .no, .no, rfl, ⟨kq, eq0, kq0, by omega⟩, rfl, by simp, .nil⟩ ?_ ?_
  · rintro j e ρ K2 he ⟨n', q, bs, x5, x6, rfl, ⟨k, rfl, k0, k1⟩, hl, hbs, hp⟩ next
    obtain ⟨hj, rfl⟩ := rngD_get he
    simp [cE, vE, bE, rE, fE, mE, bin, nilA, consA, bT, andT, orT, notT, tupE, lstE, allV, allM, okB, intR, addR, asL, asT, asD, eqR, eqD_nn, eqD_bb, eqD_ii, eqD_ss, eqD_tt, eqD_ll, eqD_bi, eqD_ib, eqD_nt, eqD_tn, eqD_it, eqD_ti, eqD_ni, eqD_in, eqDs_nn, eqDs_cc, eqDs_nc, eqDs_cn, cmpD, cmpDs, depD, depDs, isNon, isNR, chainE, tvE, andV, orV, notV, ifE, slEV, ixR, callV, lenC, isiC, tyN, pick, retEV, callP, argD, argDs, seqS, bkS, ctS, exprS, retS, retNS, ifS, evSl, setS, SK.loop, gN, gNil, gCons, gT, asgS, parS, defF, defK, raiseS, absC, divmodC, mmC, stL, itL, itT, itR1, itR2, itE, shL, itZ, itV, forS, evD, methL, appL, clrL, popL, insL, trL, extL, setixS, argS, argSs, callI, callN, hereA, nextA, negE, itS, wipeR, compE, compD, yesT, seqD, listC, tupC, numd, zipd, nxS, frSl, retSl, retSls, retOk, retOks, tryAsS, tryOnlyS, lookB, kinE, xfE, lookF, frzE, isTR, isTB, allC, blsD, gU, raiseIS, at0, at1, at2, at3, lrE, sortC, intC, intsD, slE, intO, cutD, eqXR, slX, addT, repT, compX, compDx, neYR, lrevE, F__law_take, F__law_small, F__law_fit, F__law_plus, F_plus, F_two, Rat.den_nz, nd]
    refine ⟨by unfold Si; decide, fun z n3 z0 z1 => ?_⟩
    obtain ⟨W, hW, hw⟩ := pick3'' (a := 5) (b := 5) (c := 1000) z0 z1
    rw [hW]
    have psm : Sm 12 ((k : Rat) / 6) := p_sm ⟨k, rfl, by omega, by omega⟩
    have key : ∀ W' : Int, 1 ≤ W' → W' ≤ 1000 → ∀ u : Rat, SmallOk u → bs.length < 1000000 ∧ Si 8000 9 ∧ ∀ a : Int, 0 ≤ a → a < 9 → Si 8000 3 ∧ ∀ c n' : Int, 0 ≤ c → c < 3 → (¬ 1 + c = 0 ∧ Si 8100 (1 + c)) ∧
        (Si 4000 ((k : Rat) / 6).num ∧ Si 4000 ((((k : Rat) / 6).den : Nat) : Int) ∧ Si 4000 ((1 + (a : Rat)) / (1 + (c : Rat))).num ∧ Si 4000 ((((1 + (a : Rat)) / (1 + (c : Rat))).den : Nat) : Int)) ∧
        K2 [.l [.int n'], .v (.int (1 + m)), .v (.bl (y == 3)), .v (frD ((k : Rat) / 6 + (1 + (a : Rat)) / (1 + (c : Rat)))), .l (bs.map wD ++ [.tup [frD ((k : Rat) / 6), frD u, .int W']]), .v (.int (j : Nat)), .v (.int W')] := by
      intro W' W0 W1 u hu
      refine ⟨by omega, by unfold Si; decide, fun a a0 a1 => ⟨by unfold Si; decide, fun c n5 c0 c1 => ?_⟩⟩
      have hc3 : (1 + c = 1 ∨ 1 + c = 2 ∨ 1 + c = 3) := by omega
      obtain ⟨k2, ek, hk⟩ := sixth (x := 1 + a) hc3
      rw [Rat.intCast_add, Rat.intCast_add] at ek
      have ek' : (1 + (a : Rat)) / (1 + (c : Rat)) = (k2 : Rat) / 6 := ek
      have s2 : Sm 12 ((k2 : Rat) / 6) := p_sm ⟨k2, rfl, by omega, by omega⟩
      rw [ek']
      have es : (k : Rat) / 6 + (k2 : Rat) / 6 = ((k + k2 : Int) : Rat) / 6 := by rw [Rat.intCast_add]; grind
      refine ⟨⟨by omega, by unfold Si; omega⟩, ⟨psm.1.mono (by decide), psm.2.mono (by decide), s2.1.mono (by decide), s2.2.mono (by decide)⟩, ?_⟩
      rw [es]
      have hlt : ((k : Rat) / 6) < ((k + k2 : Int) : Rat) / 6 := by
        have : (0 : Rat) < (k2 : Rat) := by exact_mod_cast (by omega : 0 < k2)
        rw [← es]
        grind
      refine next _ ⟨n5, _, bs ++ [⟨(k : Rat) / 6, u, W'⟩], .v (.int (j : Nat)), .v (.int W'), by simp [wD], ⟨k + k2, rfl, by omega, by push_cast; omega⟩, by simp [hl], fun b hb => ?_, ?_⟩
      · rcases List.mem_append.mp hb with hb | hb
        · obtain ⟨h1, h2⟩ := hbs b hb
          exact ⟨h1, by grind⟩
        · rw [List.mem_singleton.mp hb]
          exact ⟨⟨⟨k, rfl, by omega, by omega⟩, hu, W0, W1⟩, hlt⟩
      · refine List.pairwise_append.mpr ⟨hp, List.pairwise_singleton _ _, fun a ha b hb => ?_⟩
        rw [List.mem_singleton.mp hb]
        exact (hbs a ha).2
    refine ⟨⟨by omega, by unfold Si; omega⟩, fun w w0 w1 => ?_⟩
    by_cases c1 : y = 3
    · rw [if_pos c1]
      have cb : cmpDs (bs.map wD) = true := by clear hl hbs hp next key; induction bs <;> simp_all [cmpDs, cmpD, wD]
      refine ⟨cb, ?_⟩
      cases bs with
      | nil =>
        rw [if_pos (by simp [eqDs])]
        exact key (1 + w) (by omega) (by omega)
      | cons b br =>
        rw [if_neg (by simp [eqDs])]
        have e0 : L2.atI ((b :: br).map wD) 0 = some (wD b) := at0
        rw [e0]
        have ok := (hbs b List.mem_cons_self).1
        simp [wD, at2]
        exact key b.m ok.m1 ok.m2
    · rw [if_neg c1]
      exact key (1 + w) (by omega) (by omega)
  · rintro ρ ⟨n', q, bs, x5, x6, rfl, ⟨k, rfl, k0, k1⟩, hl, hbs, hp⟩
    rw [rngD_len] at hl
    have rb : retOks (bs.map wD) = true := by clear hl hbs hp; induction bs <;> simp_all [retOks, retOk, wD]
    have := h bs n' ⟨fun z => by rw [z] at hl; simp at hl; omega, by omega, fun b hb => (hbs b hb).1, hp⟩
    exact ⟨⟨rb, rfl⟩, this⟩
end VS
set_option Elab.async false
set_option linter.all false
set_option maxRecDepth 100000
set_option maxHeartbeats 4000000
/-! VM136: worlds as texts, plain: what is written, what is read. Texts are lists of codes. Own work. -/
namespace VS
open PySem PySem.Spec PyProof.Rows
open SX (S)
open PySem.NumText (digitsVal AllDigits)
def digB (c : Nat) : Bool := decide (48 ≤ c) && decide (c ≤ 57)
/-- a whole number of at most a hundred figures -/
def wholeL (l : List Nat) : Option Nat := if (1 ≤ l.length ∧ l.length ≤ 100) ∧ ¬ (1 < l.length ∧ l.head? = some 48) ∧ l.all digB = true then some (digitsVal l) else none
def negL (l : List Nat) : Bool := l.head? == some 45
def partsL (l : List Nat) : List (List Nat) := TL.spl [47] 0 [] (l.drop (if negL l then 1 else 0))
def fracL (l : List Nat) : Option Rat := match (partsL l).map wholeL with
  | [some a] => if negL l = true ∧ a = 0 then none else some (((if negL l then -(a : Int) else (a : Int)) : Int) : Rat)
  | [some a, some b] => if b = 1 then none else if (negL l = true ∧ a = 0) ∨ ¬ (0 < b ∧ Nat.gcd a b = 1) then none else some ((((if negL l then -(a : Int) else (a : Int)) : Int) : Rat) / ((b : Int) : Rat))
  | _ => none
def bodyL (l : List Nat) : Option Bw := match TL.spl [32] 0 [] l with
  | [x, y, z] => (match fracL x, fracL y, wholeL z with
    | some p, some u, some m => if 1 ≤ m ∧ m ≤ 1000 then some ⟨p, u, (m : Nat)⟩ else none
    | _, _, _ => none)
  | _ => none
def fitsL (acc : List Bw) (b : Bw) : Bool := match acc.getLast? with
  | some a => decide (a.p < b.p)
  | none => true
def readGo : Nat → List Bw → List (List Nat) → Except Nat (List Bw)
  | _, acc, [] => .ok acc
  | n, acc, l :: ls => match bodyL l with
    | none => .error n
    | some b => if n = 12 then .error n else if fitsL acc b = true then readGo (n + 1) (acc ++ [b]) ls else .error n
def readL (l : List Nat) : Except Nat (List Bw) := readGo 0 [] (TL.spl [10] 0 [] l)
def intL (i : Int) : List Nat := if i < 0 then 45 :: TL.numL i.natAbs else TL.numL i.natAbs
def qtxL (q : Rat) : List Nat := if q.den = 1 then intL q.num else intL q.num ++ 47 :: TL.numL q.den
def bdL (b : Bw) : List Nat := qtxL b.p ++ 32 :: (qtxL b.u ++ 32 :: intL b.m)
def wdL (bs : List Bw) : List Nat := TL.joinL [10] (bs.map bdL)
/-! numbers of many figures -/
theorem digB_of {c : Nat} : digB c = true ↔ 48 ≤ c ∧ c ≤ 57 := by unfold digB; simp
theorem all_dig {l : List Nat} : l.all digB = true ↔ AllDigits l := by
  rw [List.all_eq_true]
  exact ⟨fun h c hc => digB_of.mp (h c hc), fun h c hc => digB_of.mpr (h c hc)⟩
theorem foldl_lt : ∀ (l : List Nat) (a : Nat), AllDigits l → l.foldl (fun acc c => acc * 10 + (c - 48)) a < (a + 1) * 10 ^ l.length
  | [], a, _ => by simp
  | c :: l, a, h => by
    have hc := h c List.mem_cons_self
    have ih := foldl_lt l (a * 10 + (c - 48)) fun d hd => h d (List.mem_cons_of_mem _ hd)
    rw [List.foldl_cons, List.length_cons]
    refine Nat.lt_of_lt_of_le ih ?_
    rw [Nat.pow_succ, ← Nat.mul_assoc, Nat.mul_right_comm]
    exact Nat.mul_le_mul_right _ (by omega)
theorem val_lt {l : List Nat} (h : AllDigits l) : digitsVal l < 10 ^ l.length := by
  have z := foldl_lt l 0 h
  rw [Nat.zero_add, Nat.one_mul] at z
  exact z
theorem wholeL_lt {l : List Nat} {n : Nat} (h : wholeL l = some n) : n < 10 ^ 100 := by
  unfold wholeL at h
  split at h
  · rename_i c
    cases h
    exact Nat.lt_of_lt_of_le (val_lt (all_dig.mp c.2.2)) (Nat.pow_le_pow_right (by decide) c.1.2)
  · cases h
theorem intL_free {i : Int} {s : Nat} (h : s < 45 ∨ 57 < s ∨ s = 47) : s ∉ intL i := by
  unfold intL
  split
  · intro z
    rcases List.mem_cons.mp z with z | z
    · omega
    · exact TL.numL_free (by omega) z
  · exact TL.numL_free (by omega)
theorem qtxL_free {q : Rat} {s : Nat} (h : s < 45 ∨ 57 < s) : s ∉ qtxL q := by
  unfold qtxL
  split
  · exact intL_free (by omega)
  · intro z
    rcases List.mem_append.mp z with z | z
    · exact intL_free (by omega) z
    · rcases List.mem_cons.mp z with z | z
      · omega
      · exact TL.numL_free (by omega) z
theorem bdL_free {b : Bw} : 10 ∉ bdL b := by
  unfold bdL
  intro z
  rcases List.mem_append.mp z with z | z
  · exact qtxL_free (by omega) z
  · rcases List.mem_cons.mp z with z | z
    · omega
    · rcases List.mem_append.mp z with z | z
      · exact qtxL_free (by omega) z
      · rcases List.mem_cons.mp z with z | z
        · omega
        · exact intL_free (by omega) z
theorem bdL_join (b : Bw) : bdL b = TL.joinL [32] [qtxL b.p, qtxL b.u, intL b.m] := rfl
structure SmT (q : Rat) : Prop where
  n : q.num.natAbs < 10 ^ 100
  d : q.den < 10 ^ 100
theorem intL_nat (n : Nat) : intL (n : Int) = TL.numL n := by
  unfold intL
  rw [if_neg (by omega)]
  rfl
end VS
set_option Elab.async false
set_option linter.all false
set_option maxRecDepth 100000
set_option maxHeartbeats 4000000
/-! VM137: whole_in, fraction_in, body_in, read_world walked. Own work. -/
namespace VS
open PySem PySem.Spec PyProof.Rows
open L2 (V Hp Cx WX)
open SX (S)
def gv_FIGURES : D := .str "0123456789"
theorem s_fig : (Str.ofString "0123456789") = S [48, 49, 50, 51, 52, 53, 54, 55, 56, 57] := by decide +kernel
theorem s_zero : (Str.ofString "0") = S [48] := by decide +kernel
theorem s_dash : (Str.ofString "-") = S [45] := by decide +kernel
theorem s_over : (Str.ofString "/") = S [47] := by decide +kernel
theorem s_blank : (Str.ofString " ") = S [32] := by decide +kernel
theorem s_line : (Str.ofString "\n") = S [10] := by decide +kernel
abbrev strL (l : List Nat) : D := .str (S l)
def fracD : Option Rat → D
  | none => .non
  | some q => frD q
def bodyD : Option Bw → D
  | none => .non
  | some b => wD b
abbrev noText (n : Nat) : Exc := ⟨"NoText", ["line"], [.int (n : Nat)]⟩
def F_whole_in : FS := fun ss K _ => ∃ l : List Nat, ss = [.v (strL l)] ∧ l.length ≤ 100000 ∧ K (.v (optD (wholeL l))) []
theorem m_whole_in : MonoF F_whole_in := fun ss K K' E E' hk he ⟨l, h1, h2, h3⟩ => ⟨l, h1, h2, hk _ _ h3⟩
def F_fraction_in : FS := fun ss K _ => ∃ l : List Nat, ss = [.v (strL l)] ∧ l.length ≤ 100000 ∧ K (.v (fracD (fracL l))) []
theorem m_fraction_in : MonoF F_fraction_in := fun ss K K' E E' hk he ⟨l, h1, h2, h3⟩ => ⟨l, h1, h2, hk _ _ h3⟩
def F_body_in : FS := fun ss K _ => ∃ l : List Nat, ss = [.v (strL l)] ∧ l.length ≤ 100000 ∧ K (.v (bodyD (bodyL l))) []
theorem m_body_in : MonoF F_body_in := fun ss K K' E E' hk he ⟨l, h1, h2, h3⟩ => ⟨l, h1, h2, hk _ _ h3⟩
/-- what is no text -/
def noStr : D → Bool
  | .str _ => false
  | .ty _ => false
  | .fn _ => false
  | _ => true
def F_read_world : FS := fun ss K E => ∃ d, ss = [.v d] ∧ ((noStr d = true ∧ E (noText 0) []) ∨ ∃ l, d = strL l ∧ l.length ≤ 100000 ∧ match readL l with
  | .ok bs => K (.m (.l (bs.map wD))) []
  | .error n => E (noText n) [])
theorem m_read_world : MonoF F_read_world := fun ss K K' E E' hk he ⟨d, h1, h⟩ => ⟨d, h1, by
  rcases h with ⟨h2, h3⟩ | ⟨l, h2, h3, h4⟩
  · exact .inl ⟨h2, he _ _ h3⟩
  · refine .inr ⟨l, h2, h3, ?_⟩
    split at h4
    · exact hk _ _ h4
    · exact he _ _ h4⟩
def sf_whole_in : SS := (seqS (ifS (orT (notT (bT (chainE true true (fun i j => decide (i ≤ j)) (fun i j => decide (i ≤ j)) (cE (.int 1)) (callV lenC (consA true (vE 0) nilA)) (cE (.int (100)))))) (andT (bT (bin true (callV lenC (consA true (vE 0) nilA)) (cE (.int 1)) gtR)) (bT (bin true (bin true (vE 0) (cE (.int 0)) ixR) (cE (.str "0")) (eqR false))))) (retS (cE .non)) nxS)
  (seqS (forS (itC (vE 0)) (gN 1 true) (ifS (bT (bin true (vE 1) (cE gv_FIGURES) (inSR true))) (retS (cE .non)) nxS))
  (retS (callV intTC (consA true (vE 0) nilA)))))
def sf_fraction_in_r1 : SS := (seqS (ifS (orT (andT (bT (vE 1)) (bT (bin true (vE 3) (cE (.int 0)) (eqR false)))) (notT (bT (callP F_is_fraction [] (consA true (tupE (consA true (vE 3) (consA true (vE 4) nilA))) nilA))))) (retS (cE .non)) nxS)
  (retS (tupE (consA true (vE 3) (consA true (vE 4) nilA)))))
def sf_fraction_in_r2 : SS := (seqS (setS 4 true (cE (.int 1)))
  (seqS (ifS (bT (bin true (callV lenC (consA true (vE 2) nilA)) (cE (.int 2)) (eqR false))) (seqS (setS 4 true (bin true (vE 2) (cE (.int 1)) ixR))
  (ifS (bT (bin true (vE 4) (cE (.int 1)) (eqR false))) (retS (cE .non)) nxS)) nxS)
  sf_fraction_in_r1))
def sf_fraction_in_r3 : SS := (seqS (setS 3 true (bin true (vE 2) (cE (.int 0)) ixR))
  (seqS (ifS (bT (vE 1)) (setS 3 true (bin true (cE (.int 0)) (vE 3) (intR (fun _ _ => True) fun i j => .int (i - j)))) nxS)
  sf_fraction_in_r2))
def sf_fraction_in_r4 : SS := (seqS (ifS (orT (bT (bin true (cE .non) (vE 2) (inR false))) (bT (bin true (callV lenC (consA true (vE 2) nilA)) (cE (.int 2)) gtR))) (retS (cE .non)) nxS)
  sf_fraction_in_r3)
def sf_fraction_in : SS := (seqS (setS 1 true (bin true (slZ (vE 0) none (some (cE (.int 1)))) (cE (.str "-")) (eqR false)))
  (seqS (setS 2 true (compE [5] (itS (strE (slZ (vE 0) (some (callV intC (consA true (vE 1) nilA))) none) (cE (.str "/")) splS)) (gN 5 true) yesT (callP F_whole_in [] (consA true (vE 5) nilA))))
  sf_fraction_in_r4))
def sf_body_in : SS := (seqS (setS 1 true (strE (vE 0) (cE (.str " ")) splS))
  (seqS (ifS (bT (bin true (callV lenC (consA true (vE 1) nilA)) (cE (.int 3)) (eqR true))) (retS (cE .non)) nxS)
  (seqS (setS 2 true (tupE (consA true (callP F_fraction_in [] (consA true (bin true (vE 1) (cE (.int 0)) ixR) nilA)) (consA true (callP F_fraction_in [] (consA true (bin true (vE 1) (cE (.int 1)) ixR) nilA)) (consA true (callP F_whole_in [] (consA true (bin true (vE 1) (cE (.int 2)) ixR) nilA)) nilA)))))
  (seqS (ifS (notT (bT (callP F_is_body [] (consA true (vE 2) nilA)))) (retS (cE .non)) nxS)
  (retS (vE 2))))))
def sf_read_world_r1 : SS := (seqS (ifS (andT (bT (bin true (rE 1) (lstE nilA) (eqR true))) (notT (bT (callP F_under [] (consA true (bin true (bin true (rE 1) (negE (cE (.int 1))) ixR) (cE (.int 0)) ixR) (consA true (bin true (vE 4) (cE (.int 0)) ixR) nilA)))))) (raiseIS "NoText" ["line"] (consA true (vE 2) nilA)) nxS)
  (exprS (methL 1 appL (consA true (vE 4) nilA))))
def sf_read_world_r2 : SS := (seqS (ifS (orT (bT (bin true (vE 4) (cE .non) (isNR false))) (bT (bin true (vE 2) (cE (.int (12))) (eqR false)))) (raiseIS "NoText" ["line"] (consA true (vE 2) nilA)) nxS)
  sf_read_world_r1)
def sf_read_world_r3 : SS := (retS (mE 1))
def sf_read_world : SS := (seqS (ifS (notT (bT (callV (isiC kb) (consA true (vE 0) (consA true (cE (.ty "str")) nilA))))) (raiseIS "NoText" ["line"] (consA true (cE (.int 0)) nilA)) nxS)
  (seqS (setS 1 false (lstE nilA))
  (seqS (forS (itE (consA true (strE (vE 0) (cE (.str "\n")) splS) nilA)) (gT 2 (gCons (gN 2 true) (gCons (gN 3 true) gNil))) (seqS (setS 4 true (callP F_body_in [] (consA true (vE 3) nilA)))
  sf_read_world_r2))
  sf_read_world_r3)))
theorem sgD_S (l : List Nat) : sgD (S l) = l.map fun c => .str (S [c]) := rfl
theorem fig_mem (c : Nat) : c ∈ [48, 49, 50, 51, 52, 53, 54, 55, 56, 57] ↔ digB c = true := by
  rw [digB_of]
  simp; omega
theorem wh_loop {z : Sl} {k : SK} : ∀ (l : List Nat) (s : Sl), (l.all digB = true → ∀ s', k.nx [z, s']) → (l.all digB = false → ∀ s', k.rt (.v .non) [z, s']) →
    loopS (gN 1 true) (ifS (bT (bin true (vE 1) (cE (.str (S [48, 49, 50, 51, 52, 53, 54, 55, 56, 57]))) (inSR true))) (retS (cE .non)) nxS) (sgD (S l)) [z, s] k
  | [], s, hn, _ => hn rfl s
  | c :: l, s, hn, hr => by
    rw [sgD_S, List.map_cons]
    unfold loopS
    have e := fig_mem c
    by_cases d : digB c = true
    · have m := e.mpr d
      have ih := wh_loop (z := z) (k := k) l (.v (.str (S [c]))) (fun h => hn (by simp [d, h])) (fun h => hr (by simp [h]))
      simp [cE, vE, bE, rE, fE, mE, bin, nilA, consA, bT, andT, orT, notT, tupE, lstE, allV, allM, okB, intR, addR, asL, asT, asD, eqR, eqD_nn, eqD_bb, eqD_ii, eqD_ss, eqD_tt, eqD_ll, eqD_bi, eqD_ib, eqD_nt, eqD_tn, eqD_it, eqD_ti, eqD_ni, eqD_in, eqDs_nn, eqDs_cc, eqDs_nc, eqDs_cn, cmpD, cmpDs, depD, depDs, isNon, isNR, chainE, tvE, andV, orV, notV, ifE, slEV, ixR, callV, lenC, isiC, tyN, pick, retEV, callP, argD, argDs, seqS, bkS, ctS, exprS, retS, retNS, ifS, evSl, setS, SK.loop, gN, gNil, gCons, gT, asgS, parS, defF, defK, raiseS, absC, divmodC, mmC, stL, itL, itT, itR1, itR2, itE, shL, itZ, itV, forS, evD, methL, appL, clrL, popL, insL, trL, extL, setixS, argS, argSs, callI, callN, hereA, nextA, negE, itS, wipeR, compE, compD, yesT, seqD, listC, tupC, numd, zipd, nxS, frSl, retSl, retSls, retOk, retOks, tryAsS, tryOnlyS, lookB, kinE, xfE, lookF, frzE, isTR, isTB, allC, blsD, gU, raiseIS, at0, at1, at2, at3, lrE, sortC, intC, intsD, slE, intO, cutD, eqXR, slX, addT, repT, inR, cmpO, heldR, appT, lrE, sortC, intC, intsD, slE, intO, cutD, eqXR, slX, addT, repT, compX, compDx, neYR, lrevE, strC, intTC, strE, splS, joiS, slZ, itC, inSR, strsD, compZ, compDz]
      simp at m
      rw [if_neg (by omega)]
      exact ih
    · have m : ¬ c ∈ [48, 49, 50, 51, 52, 53, 54, 55, 56, 57] := fun h => d (e.mp h)
      simp [cE, vE, bE, rE, fE, mE, bin, nilA, consA, bT, andT, orT, notT, tupE, lstE, allV, allM, okB, intR, addR, asL, asT, asD, eqR, eqD_nn, eqD_bb, eqD_ii, eqD_ss, eqD_tt, eqD_ll, eqD_bi, eqD_ib, eqD_nt, eqD_tn, eqD_it, eqD_ti, eqD_ni, eqD_in, eqDs_nn, eqDs_cc, eqDs_nc, eqDs_cn, cmpD, cmpDs, depD, depDs, isNon, isNR, chainE, tvE, andV, orV, notV, ifE, slEV, ixR, callV, lenC, isiC, tyN, pick, retEV, callP, argD, argDs, seqS, bkS, ctS, exprS, retS, retNS, ifS, evSl, setS, SK.loop, gN, gNil, gCons, gT, asgS, parS, defF, defK, raiseS, absC, divmodC, mmC, stL, itL, itT, itR1, itR2, itE, shL, itZ, itV, forS, evD, methL, appL, clrL, popL, insL, trL, extL, setixS, argS, argSs, callI, callN, hereA, nextA, negE, itS, wipeR, compE, compD, yesT, seqD, listC, tupC, numd, zipd, nxS, frSl, retSl, retSls, retOk, retOks, tryAsS, tryOnlyS, lookB, kinE, xfE, lookF, frzE, isTR, isTB, allC, blsD, gU, raiseIS, at0, at1, at2, at3, lrE, sortC, intC, intsD, slE, intO, cutD, eqXR, slX, addT, repT, inR, cmpO, heldR, appT, lrE, sortC, intC, intsD, slE, intO, cutD, eqXR, slX, addT, repT, compX, compDx, neYR, lrevE, strC, intTC, strE, splS, joiS, slZ, itC, inSR, strsD, compZ, compDz]
      simp at m
      rw [if_pos (by omega)]
      exact hr (by simp [d]) _
theorem atI_head {l : List Nat} (h : 1 ≤ l.length) : ∃ c, L2.atI l 0 = some c ∧ l.head? = some c := by
  cases l with
  | nil => simp at h
  | cons c l => exact ⟨c, atN (i := 0) rfl, rfl⟩
theorem to_whole_in : ∀ ss K E, F_whole_in ss K E → defF [false] 2 sf_whole_in ss K E := fun ss K E h => by
  obtain ⟨l, rfl, hl0, h⟩ := h
  have hl : l.length ≤ sizeLine := by unfold sizeLine; omega
  have e : (S l).length = l.length := SX.S_len l
  unfold wholeL at h
  simp [sf_whole_in, cE, vE, bE, rE, fE, mE, bin, nilA, consA, bT, andT, orT, notT, tupE, lstE, allV, allM, okB, intR, addR, asL, asT, asD, eqR, eqD_nn, eqD_bb, eqD_ii, eqD_ss, eqD_tt, eqD_ll, eqD_bi, eqD_ib, eqD_nt, eqD_tn, eqD_it, eqD_ti, eqD_ni, eqD_in, eqDs_nn, eqDs_cc, eqDs_nc, eqDs_cn, cmpD, cmpDs, depD, depDs, isNon, isNR, chainE, tvE, andV, orV, notV, ifE, slEV, ixR, callV, lenC, isiC, tyN, pick, retEV, callP, argD, argDs, seqS, bkS, ctS, exprS, retS, retNS, ifS, evSl, setS, SK.loop, gN, gNil, gCons, gT, asgS, parS, defF, defK, raiseS, absC, divmodC, mmC, stL, itL, itT, itR1, itR2, itE, shL, itZ, itV, forS, evD, methL, appL, clrL, popL, insL, trL, extL, setixS, argS, argSs, callI, callN, hereA, nextA, negE, itS, wipeR, compE, compD, yesT, seqD, listC, tupC, numd, zipd, nxS, frSl, retSl, retSls, retOk, retOks, tryAsS, tryOnlyS, lookB, kinE, xfE, lookF, frzE, isTR, isTB, allC, blsD, gU, raiseIS, at0, at1, at2, at3, lrE, sortC, intC, intsD, slE, intO, cutD, eqXR, slX, addT, repT, inR, cmpO, heldR, appT, lrE, sortC, intC, intsD, slE, intO, cutD, eqXR, slX, addT, repT, compX, compDx, neYR, lrevE, strC, intTC, strE, splS, joiS, slZ, itC, inSR, strsD, compZ, compDz, s_zero, s_fig, gv_FIGURES]
  rw [e]
  refine ⟨hl, ?_⟩
  have fin : ((1 ≤ l.length ∧ l.length ≤ 100) ∧ ¬ (1 < l.length ∧ l.head? = some 48)) → ∀ k : SK, (∀ s' n, intText? (S l) = some n → K (.v (.int n)) [] → k.nx [.v (strL l), s']) → (∀ s', k.rt (.v .non) [.v (strL l), s'] = K (.v .non) []) →
      loopS (gN 1 true) (ifS (bT (bin true (vE 1) (cE (.str (S [48, 49, 50, 51, 52, 53, 54, 55, 56, 57]))) (inSR true))) (retS (cE .non)) nxS) (sgD (S l)) [.v (strL l), .no] k := fun c k h1 h2 => by
    refine wh_loop l .no (fun d s' => ?_) (fun d s' => ?_)
    · rw [if_pos ⟨c.1, c.2, d⟩] at h
      exact h1 s' _ (SX.int_S (a := l) d (by intro z; subst z; simp at c) (by omega)) h
    · rw [h2]
      rw [if_neg (by rw [d]; simp)] at h
      exact h
  by_cases c1 : 1 ≤ l.length
  · rw [if_pos (by omega)]
    by_cases c2 : 100 < l.length
    · rw [if_pos (by omega)]
      rw [if_neg (by omega)] at h
      exact h
    · rw [if_neg (by omega)]
      refine ⟨hl, ?_⟩
      by_cases c3 : 1 < l.length
      · rw [if_pos (by omega)]
        obtain ⟨ch, e1, e2⟩ := atI_head c1
        refine ⟨hl, ?_⟩
        rw [e1]
        dsimp only
        by_cases c4 : ch = 48
        · rw [if_pos c4]
          rw [if_neg (by rw [e2, c4]; simp [c3])] at h
          exact h
        · rw [if_neg c4]
          refine fin ⟨⟨c1, by omega⟩, by rw [e2]; simp [c4]⟩ _ (fun s' n en hk => ?_) (fun s' => ?_)
          · simp [pick, retSls, retSl, en]
            exact ⟨by omega, hk⟩
          · simp [pick, retSls, retSl, retOk]
      · rw [if_neg (by omega)]
        refine fin ⟨⟨c1, by omega⟩, fun z => c3 z.1⟩ _ (fun s' n en hk => ?_) (fun s' => ?_)
        · simp [pick, retSls, retSl, en]
          exact ⟨by omega, hk⟩
        · simp [pick, retSls, retSl, retOk]
  · rw [if_neg (by omega)]
    rw [if_neg (by omega)] at h
    exact h
theorem cutT_to {l : List Nat} {i : Int} (h : 0 ≤ i) : L2.cutS (S l) none (some i) = S (l.take i.toNat) := by rw [C8.cutS_slice]; exact SX.slice_to h
theorem cutT_from {l : List Nat} {i : Int} (h : 0 ≤ i) : L2.cutS (S l) (some i) none = S (l.drop i.toNat) := by rw [C8.cutS_slice]; exact SX.slice_from h
theorem take_dash (l : List Nat) : (S (l.take 1) == S [45]) = negL l := by
  rw [SX.S_beq]
  unfold negL
  cases l with
  | nil => rfl
  | cons c r => simp
theorem splS_S {a : List Nat} {c : Nat} (hk : c < 256) : (PySem.Txt.split (S a) (S [c])).map D.str = (TL.spl [c] 0 [] a).map strL := by
  rw [SX.split_S (by simp) (by simpa using hk), List.map_map]
  rfl
theorem spl_ne {s : List Nat} : ∀ (l acc : List Nat) (k : Nat), TL.spl s k acc l ≠ []
  | [], acc, k => by rw [TL.spl_nil]; simp
  | c :: r, acc, 0 => by
    unfold TL.spl
    split
    · simp
    · exact spl_ne r _ 0
  | c :: r, acc, k + 1 => spl_ne r acc k
theorem spl_len {s : List Nat} : ∀ (l acc : List Nat) (k : Nat), (TL.spl s k acc l).length ≤ l.length + 1
  | [], acc, k => by rw [TL.spl_nil]; simp
  | c :: r, acc, 0 => by
    unfold TL.spl
    split
    · have := spl_len (s := s) r [] (s.length - 1)
      simp; omega
    · have := spl_len (s := s) r (acc ++ [c]) 0
      simp; omega
  | c :: r, acc, k + 1 => by
    have := spl_len (s := s) r acc k
    show (TL.spl s k acc r).length ≤ _
    simp; omega
/-- what is cut out is no longer than the whole -/
theorem spl_part {s : List Nat} : ∀ (l acc : List Nat) (k : Nat), ∀ p ∈ TL.spl s k acc l, p.length ≤ acc.length + l.length
  | [], acc, k => fun p hp => by rw [TL.spl_nil] at hp; rw [List.mem_singleton.mp hp]; simp
  | c :: r, acc, 0 => fun p hp => by
    unfold TL.spl at hp
    split at hp
    · rcases List.mem_cons.mp hp with rfl | hp
      · simp
      · have := spl_part r [] _ p hp
        simp at this ⊢; omega
    · have := spl_part r (acc ++ [c]) 0 p hp
      simp at this ⊢; omega
  | c :: r, acc, k + 1 => fun p hp => by
    have := spl_part r acc k p hp
    simp; omega
theorem comp_mapT {α : Type} {own : List Nat} {g : GS} {t : BS} {f : ES} {ρ : Rho} (u v : α → D) : ∀ (xs : List α) (acc : List D) (K : List D → Prop),
    (∀ a ∈ xs, ∀ (acc ds : List D) (K : List D → Prop), compD own g t f ρ ds (acc ++ [v a]) K → compD own g t f ρ (u a :: ds) acc K) → K (acc ++ xs.map v) → compD own g t f ρ (xs.map u) acc K
  | [], acc, K, _, k => by simpa [compD] using k
  | a :: xs, acc, K, step, k => step a List.mem_cons_self acc _ K (comp_mapT u v xs (acc ++ [v a]) K (fun b hb => step b (List.mem_cons_of_mem _ hb)) (by simpa using k))
theorem fr_two {a b : Int} (hb : 0 < b) (h : Int.gcd a b = 1) : frD ((a : Rat) / (b : Rat)) = .tup [.int a, .int b] := by
  obtain ⟨h1, h2⟩ := (fit_eq hb).mpr h
  show D.tup [.int _, .int _] = _
  rw [h1, h2]
theorem isFr_two (a b : Int) : isFr (.tup [.int a, .int b]) = (decide (0 < b) && decide (Int.gcd a b = 1)) := rfl
theorem cmp_optD1 (x : Option Nat) : cmpD (optD x) = true := by cases x <;> rfl
theorem cmp_optD : ∀ ws : List (Option Nat), cmpDs (ws.map optD) = true
  | [] => rfl
  | x :: ws => by
    rw [List.map_cons]
    show (cmpD (optD x) && cmpDs _) = true
    rw [cmp_optD ws]
    cases x <;> rfl
theorem fr_r1 {neg : Bool} {a b : Int} {z ns : D} {x : Sl} {k : SK} (h : if (neg = true ∧ a = 0) ∨ ¬ (0 < b ∧ Int.gcd a b = 1) then k.rt (.v .non) [.v z, .v (.bl neg), .v ns, .v (.int a), .v (.int b), x] else k.rt (.v (.tup [.int a, .int b])) [.v z, .v (.bl neg), .v ns, .v (.int a), .v (.int b), x]) :
    sf_fraction_in_r1 [.v z, .v (.bl neg), .v ns, .v (.int a), .v (.int b), x] k := by
  have e := isFr_two a b
  have fin : ∀ E', (neg = true ∧ a = 0 → False) → F_is_fraction [.v (.tup [.int a, .int b])] (fun x_1 _ => match x_1 with
      | .v (.bl c) => if c = true then k.rt (.v (.tup [.int a, .int b])) [.v z, .v (.bl neg), .v ns, .v (.int a), .v (.int b), x] else k.rt (.v .non) [.v z, .v (.bl neg), .v ns, .v (.int a), .v (.int b), x]
      | _ => False) E' := fun E' hn => by
    refine ⟨_, rfl, ⟨by simp [isI], by simp [isI]⟩, ?_⟩
    dsimp only
    rw [e]
    by_cases c : 0 < b ∧ Int.gcd a b = 1
    · rw [if_neg (by rintro (z | z); exact hn z; exact z c)] at h
      rw [if_pos (by simp [c])]
      exact h
    · rw [if_pos (.inr c)] at h
      rw [if_neg (by simpa using c)]
      exact h
  simp [sf_fraction_in_r1, cE, vE, bE, rE, fE, mE, bin, nilA, consA, bT, andT, orT, notT, tupE, lstE, allV, allM, okB, intR, addR, asL, asT, asD, eqR, eqD_nn, eqD_bb, eqD_ii, eqD_ss, eqD_tt, eqD_ll, eqD_bi, eqD_ib, eqD_nt, eqD_tn, eqD_it, eqD_ti, eqD_ni, eqD_in, eqDs_nn, eqDs_cc, eqDs_nc, eqDs_cn, cmpD, cmpDs, depD, depDs, isNon, isNR, chainE, tvE, andV, orV, notV, ifE, slEV, ixR, callV, lenC, isiC, tyN, pick, retEV, callP, argD, argDs, seqS, bkS, ctS, exprS, retS, retNS, ifS, evSl, setS, SK.loop, gN, gNil, gCons, gT, asgS, parS, defF, defK, raiseS, absC, divmodC, mmC, stL, itL, itT, itR1, itR2, itE, shL, itZ, itV, forS, evD, methL, appL, clrL, popL, insL, trL, extL, setixS, argS, argSs, callI, callN, hereA, nextA, negE, itS, wipeR, compE, compD, yesT, seqD, listC, tupC, numd, zipd, nxS, frSl, retSl, retSls, retOk, retOks, tryAsS, tryOnlyS, lookB, kinE, xfE, lookF, frzE, isTR, isTB, allC, blsD, gU, raiseIS, at0, at1, at2, at3, lrE, sortC, intC, intsD, slE, intO, cutD, eqXR, slX, addT, repT, inR, cmpO, heldR, appT, lrE, sortC, intC, intsD, slE, intO, cutD, eqXR, slX, addT, repT, compX, compDx, neYR, lrevE, strC, intTC, strE, splS, joiS, slZ, itC, inSR, strsD, compZ, compDz]
  by_cases n : neg = true
  · rw [if_pos n]
    by_cases a0 : a = 0
    · rw [if_pos a0]
      rw [if_pos (.inl ⟨n, a0⟩)] at h
      exact h
    · rw [if_neg a0]
      exact fin _ fun z => a0 z.2
  · rw [if_neg n]
    exact fin _ fun z => n z.1
theorem to_fraction_in : ∀ ss K E, F_fraction_in ss K E → defF [false] 6 sf_fraction_in ss K E := fun ss K E h => by
  obtain ⟨l, rfl, hl0, h⟩ := h
  have hl : l.length ≤ sizeLine := by unfold sizeLine; omega
  simp [sf_fraction_in, cE, vE, bE, rE, fE, mE, bin, nilA, consA, bT, andT, orT, notT, tupE, lstE, allV, allM, okB, intR, addR, asL, asT, asD, eqR, eqD_nn, eqD_bb, eqD_ii, eqD_ss, eqD_tt, eqD_ll, eqD_bi, eqD_ib, eqD_nt, eqD_tn, eqD_it, eqD_ti, eqD_ni, eqD_in, eqDs_nn, eqDs_cc, eqDs_nc, eqDs_cn, cmpD, cmpDs, depD, depDs, isNon, isNR, chainE, tvE, andV, orV, notV, ifE, slEV, ixR, callV, lenC, isiC, tyN, pick, retEV, callP, argD, argDs, seqS, bkS, ctS, exprS, retS, retNS, ifS, evSl, setS, SK.loop, gN, gNil, gCons, gT, asgS, parS, defF, defK, raiseS, absC, divmodC, mmC, stL, itL, itT, itR1, itR2, itE, shL, itZ, itV, forS, evD, methL, appL, clrL, popL, insL, trL, extL, setixS, argS, argSs, callI, callN, hereA, nextA, negE, itS, wipeR, yesT, seqD, listC, tupC, numd, zipd, nxS, frSl, retSl, retSls, retOk, retOks, tryAsS, tryOnlyS, lookB, kinE, xfE, lookF, frzE, isTR, isTB, allC, blsD, gU, raiseIS, at0, at1, at2, at3, lrE, sortC, intC, intsD, slE, intO, cutD, eqXR, slX, addT, repT, inR, cmpO, heldR, appT, lrE, sortC, intC, intsD, slE, intO, cutD, eqXR, slX, addT, repT, compX, compDx, neYR, lrevE, strC, intTC, strE, splS, joiS, slZ, itC, inSR, strsD, compZ, compDz, compE, s_dash, s_over, cutT_to, take_dash]
  have ec : L2.cutS (S l) (some (if negL l = true then 1 else 0)) none = S (l.drop (if negL l then 1 else 0)) := by
    cases negL l
    · exact cutT_from (by decide)
    · exact cutT_from (by decide)
  have es : (PySem.Txt.split (S (l.drop (if negL l then 1 else 0))) (S [47])).map D.str = (partsL l).map strL := splS_S (by decide)
  have ln : (S l).length = l.length := SX.S_len l
  have lr : (l.drop (if negL l then 1 else 0)).length ≤ l.length := by rw [List.length_drop]; omega
  have lp : (partsL l).length ≤ l.length + 1 := Nat.le_trans (spl_len _ _ _) (by omega)
  have ls : (PySem.Txt.split (S (l.drop (if negL l then 1 else 0))) (S [47])).length = (partsL l).length := by
    have := congrArg List.length es
    simpa using this
  rw [ec, es, ls, ln]
  simp only [SX.S_len]
  refine ⟨hl, ⟨by simp [SX.S_len], by unfold sizeLine; omega⟩, by omega, comp_mapT strL (fun p => optD (wholeL p)) (partsL l) [] _ (fun p hp acc ds K ih => ?_) ?_⟩
  · simp [cE, vE, bE, rE, fE, mE, bin, nilA, consA, bT, andT, orT, notT, tupE, lstE, allV, allM, okB, intR, addR, asL, asT, asD, eqR, eqD_nn, eqD_bb, eqD_ii, eqD_ss, eqD_tt, eqD_ll, eqD_bi, eqD_ib, eqD_nt, eqD_tn, eqD_it, eqD_ti, eqD_ni, eqD_in, eqDs_nn, eqDs_cc, eqDs_nc, eqDs_cn, cmpD, cmpDs, depD, depDs, isNon, isNR, chainE, tvE, andV, orV, notV, ifE, slEV, ixR, callV, lenC, isiC, tyN, pick, retEV, callP, argD, argDs, seqS, bkS, ctS, exprS, retS, retNS, ifS, evSl, setS, SK.loop, gN, gNil, gCons, gT, asgS, parS, defF, defK, raiseS, absC, divmodC, mmC, stL, itL, itT, itR1, itR2, itE, shL, itZ, itV, forS, evD, methL, appL, clrL, popL, insL, trL, extL, setixS, argS, argSs, callI, callN, hereA, nextA, negE, itS, wipeR, compE, compD, yesT, seqD, listC, tupC, numd, zipd, nxS, frSl, retSl, retSls, retOk, retOks, tryAsS, tryOnlyS, lookB, kinE, xfE, lookF, frzE, isTR, isTB, allC, blsD, gU, raiseIS, at0, at1, at2, at3, lrE, sortC, intC, intsD, slE, intO, cutD, eqXR, slX, addT, repT, inR, cmpO, heldR, appT, lrE, sortC, intC, intsD, slE, intO, cutD, eqXR, slX, addT, repT, compX, compDx, neYR, lrevE, strC, intTC, strE, splS, joiS, slZ, itC, inSR, strsD, compZ, compDz]
    refine ⟨p, rfl, ?_, ih⟩
    have := spl_part _ _ _ p hp
    simp at this
    omega
  · have em : (partsL l).map (fun p => optD (wholeL p)) = ((partsL l).map wholeL).map optD := by rw [List.map_map]; rfl
    rw [List.nil_append, em]
    have hne : (partsL l).map wholeL ≠ [] := by
      intro z
      exact spl_ne _ _ _ (List.map_eq_nil_iff.mp z)
    unfold fracL at h
    generalize (partsL l).map wholeL = ws at *
    generalize negL l = neg at *
    match ws, hne with
    | [none], _ =>
      simp [sf_fraction_in_r4, cE, vE, bE, rE, fE, mE, bin, nilA, consA, bT, andT, orT, notT, tupE, lstE, allV, allM, okB, intR, addR, asL, asT, asD, eqR, eqD_nn, eqD_bb, eqD_ii, eqD_ss, eqD_tt, eqD_ll, eqD_bi, eqD_ib, eqD_nt, eqD_tn, eqD_it, eqD_ti, eqD_ni, eqD_in, eqDs_nn, eqDs_cc, eqDs_nc, eqDs_cn, cmpD, cmpDs, depD, depDs, isNon, isNR, chainE, tvE, andV, orV, notV, ifE, slEV, ixR, callV, lenC, isiC, tyN, pick, retEV, callP, argD, argDs, seqS, bkS, ctS, exprS, retS, retNS, ifS, evSl, setS, SK.loop, gN, gNil, gCons, gT, asgS, parS, defF, defK, raiseS, absC, divmodC, mmC, stL, itL, itT, itR1, itR2, itE, shL, itZ, itV, forS, evD, methL, appL, clrL, popL, insL, trL, extL, setixS, argS, argSs, callI, callN, hereA, nextA, negE, itS, wipeR, compE, compD, yesT, seqD, listC, tupC, numd, zipd, nxS, frSl, retSl, retSls, retOk, retOks, tryAsS, tryOnlyS, lookB, kinE, xfE, lookF, frzE, isTR, isTB, allC, blsD, gU, raiseIS, at0, at1, at2, at3, lrE, sortC, intC, intsD, slE, intO, cutD, eqXR, slX, addT, repT, inR, cmpO, heldR, appT, lrE, sortC, intC, intsD, slE, intO, cutD, eqXR, slX, addT, repT, compX, compDx, neYR, lrevE, strC, intTC, strE, splS, joiS, slZ, itC, inSR, strsD, compZ, compDz, optD]
      exact h
    | [none, y], _ =>
      cases y <;> simp [sf_fraction_in_r4, cE, vE, bE, rE, fE, mE, bin, nilA, consA, bT, andT, orT, notT, tupE, lstE, allV, allM, okB, intR, addR, asL, asT, asD, eqR, eqD_nn, eqD_bb, eqD_ii, eqD_ss, eqD_tt, eqD_ll, eqD_bi, eqD_ib, eqD_nt, eqD_tn, eqD_it, eqD_ti, eqD_ni, eqD_in, eqDs_nn, eqDs_cc, eqDs_nc, eqDs_cn, cmpD, cmpDs, depD, depDs, isNon, isNR, chainE, tvE, andV, orV, notV, ifE, slEV, ixR, callV, lenC, isiC, tyN, pick, retEV, callP, argD, argDs, seqS, bkS, ctS, exprS, retS, retNS, ifS, evSl, setS, SK.loop, gN, gNil, gCons, gT, asgS, parS, defF, defK, raiseS, absC, divmodC, mmC, stL, itL, itT, itR1, itR2, itE, shL, itZ, itV, forS, evD, methL, appL, clrL, popL, insL, trL, extL, setixS, argS, argSs, callI, callN, hereA, nextA, negE, itS, wipeR, compE, compD, yesT, seqD, listC, tupC, numd, zipd, nxS, frSl, retSl, retSls, retOk, retOks, tryAsS, tryOnlyS, lookB, kinE, xfE, lookF, frzE, isTR, isTB, allC, blsD, gU, raiseIS, at0, at1, at2, at3, lrE, sortC, intC, intsD, slE, intO, cutD, eqXR, slX, addT, repT, inR, cmpO, heldR, appT, lrE, sortC, intC, intsD, slE, intO, cutD, eqXR, slX, addT, repT, compX, compDx, neYR, lrevE, strC, intTC, strE, splS, joiS, slZ, itC, inSR, strsD, compZ, compDz, optD] <;> exact h
    | [some x, none], _ =>
      simp [sf_fraction_in_r4, cE, vE, bE, rE, fE, mE, bin, nilA, consA, bT, andT, orT, notT, tupE, lstE, allV, allM, okB, intR, addR, asL, asT, asD, eqR, eqD_nn, eqD_bb, eqD_ii, eqD_ss, eqD_tt, eqD_ll, eqD_bi, eqD_ib, eqD_nt, eqD_tn, eqD_it, eqD_ti, eqD_ni, eqD_in, eqDs_nn, eqDs_cc, eqDs_nc, eqDs_cn, cmpD, cmpDs, depD, depDs, isNon, isNR, chainE, tvE, andV, orV, notV, ifE, slEV, ixR, callV, lenC, isiC, tyN, pick, retEV, callP, argD, argDs, seqS, bkS, ctS, exprS, retS, retNS, ifS, evSl, setS, SK.loop, gN, gNil, gCons, gT, asgS, parS, defF, defK, raiseS, absC, divmodC, mmC, stL, itL, itT, itR1, itR2, itE, shL, itZ, itV, forS, evD, methL, appL, clrL, popL, insL, trL, extL, setixS, argS, argSs, callI, callN, hereA, nextA, negE, itS, wipeR, compE, compD, yesT, seqD, listC, tupC, numd, zipd, nxS, frSl, retSl, retSls, retOk, retOks, tryAsS, tryOnlyS, lookB, kinE, xfE, lookF, frzE, isTR, isTB, allC, blsD, gU, raiseIS, at0, at1, at2, at3, lrE, sortC, intC, intsD, slE, intO, cutD, eqXR, slX, addT, repT, inR, cmpO, heldR, appT, lrE, sortC, intC, intsD, slE, intO, cutD, eqXR, slX, addT, repT, compX, compDx, neYR, lrevE, strC, intTC, strE, splS, joiS, slZ, itC, inSR, strsD, compZ, compDz, optD]
      exact h
    | [some a], _ =>
      cases neg
      · simp [sf_fraction_in_r4, sf_fraction_in_r3, sf_fraction_in_r2, cE, vE, bE, rE, fE, mE, bin, nilA, consA, bT, andT, orT, notT, tupE, lstE, allV, allM, okB, intR, addR, asL, asT, asD, eqR, eqD_nn, eqD_bb, eqD_ii, eqD_ss, eqD_tt, eqD_ll, eqD_bi, eqD_ib, eqD_nt, eqD_tn, eqD_it, eqD_ti, eqD_ni, eqD_in, eqDs_nn, eqDs_cc, eqDs_nc, eqDs_cn, cmpD, cmpDs, depD, depDs, isNon, isNR, chainE, tvE, andV, orV, notV, ifE, slEV, ixR, callV, lenC, isiC, tyN, pick, retEV, callP, argD, argDs, seqS, bkS, ctS, exprS, retS, retNS, ifS, evSl, setS, SK.loop, gN, gNil, gCons, gT, asgS, parS, defF, defK, raiseS, absC, divmodC, mmC, stL, itL, itT, itR1, itR2, itE, shL, itZ, itV, forS, evD, methL, appL, clrL, popL, insL, trL, extL, setixS, argS, argSs, callI, callN, hereA, nextA, negE, itS, wipeR, compE, compD, yesT, seqD, listC, tupC, numd, zipd, nxS, frSl, retSl, retSls, retOk, retOks, tryAsS, tryOnlyS, lookB, kinE, xfE, lookF, frzE, isTR, isTB, allC, blsD, gU, raiseIS, at0, at1, at2, at3, lrE, sortC, intC, intsD, slE, intO, cutD, eqXR, slX, addT, repT, inR, cmpO, heldR, appT, lrE, sortC, intC, intsD, slE, intO, cutD, eqXR, slX, addT, repT, compX, compDx, neYR, lrevE, strC, intTC, strE, splS, joiS, slZ, itC, inSR, strsD, compZ, compDz, optD]
        refine fr_r1 ?_
        rw [if_neg (by simp)]
        simp [pick, retSls, retSl, retOk, retOks]
        simp at h
        rw [show fracD (some ((a : Int) : Rat)) = _ from frD_int a] at h
        exact h
      · simp [sf_fraction_in_r4, sf_fraction_in_r3, sf_fraction_in_r2, cE, vE, bE, rE, fE, mE, bin, nilA, consA, bT, andT, orT, notT, tupE, lstE, allV, allM, okB, intR, addR, asL, asT, asD, eqR, eqD_nn, eqD_bb, eqD_ii, eqD_ss, eqD_tt, eqD_ll, eqD_bi, eqD_ib, eqD_nt, eqD_tn, eqD_it, eqD_ti, eqD_ni, eqD_in, eqDs_nn, eqDs_cc, eqDs_nc, eqDs_cn, cmpD, cmpDs, depD, depDs, isNon, isNR, chainE, tvE, andV, orV, notV, ifE, slEV, ixR, callV, lenC, isiC, tyN, pick, retEV, callP, argD, argDs, seqS, bkS, ctS, exprS, retS, retNS, ifS, evSl, setS, SK.loop, gN, gNil, gCons, gT, asgS, parS, defF, defK, raiseS, absC, divmodC, mmC, stL, itL, itT, itR1, itR2, itE, shL, itZ, itV, forS, evD, methL, appL, clrL, popL, insL, trL, extL, setixS, argS, argSs, callI, callN, hereA, nextA, negE, itS, wipeR, compE, compD, yesT, seqD, listC, tupC, numd, zipd, nxS, frSl, retSl, retSls, retOk, retOks, tryAsS, tryOnlyS, lookB, kinE, xfE, lookF, frzE, isTR, isTB, allC, blsD, gU, raiseIS, at0, at1, at2, at3, lrE, sortC, intC, intsD, slE, intO, cutD, eqXR, slX, addT, repT, inR, cmpO, heldR, appT, lrE, sortC, intC, intsD, slE, intO, cutD, eqXR, slX, addT, repT, compX, compDx, neYR, lrevE, strC, intTC, strE, splS, joiS, slZ, itC, inSR, strsD, compZ, compDz, optD]
        refine fr_r1 ?_
        by_cases a0 : a = 0
        · rw [if_pos (.inl ⟨rfl, by omega⟩)]
          simp [pick, retSls, retSl, retOk, retOks]
          simp [a0] at h
          exact h
        · rw [if_neg (by rintro (⟨_, z⟩ | z); omega; exact z ⟨by decide, by simp⟩)]
          simp [pick, retSls, retSl, retOk, retOks]
          simp [a0] at h
          have e := frD_int (-(a : Int))
          rw [Rat.intCast_neg] at e
          rw [show fracD (some (-((a : Int) : Rat))) = _ from e] at h
          exact h
    | [some a, some b], _ =>
      cases neg
      · simp [sf_fraction_in_r4, sf_fraction_in_r3, sf_fraction_in_r2, cE, vE, bE, rE, fE, mE, bin, nilA, consA, bT, andT, orT, notT, tupE, lstE, allV, allM, okB, intR, addR, asL, asT, asD, eqR, eqD_nn, eqD_bb, eqD_ii, eqD_ss, eqD_tt, eqD_ll, eqD_bi, eqD_ib, eqD_nt, eqD_tn, eqD_it, eqD_ti, eqD_ni, eqD_in, eqDs_nn, eqDs_cc, eqDs_nc, eqDs_cn, cmpD, cmpDs, depD, depDs, isNon, isNR, chainE, tvE, andV, orV, notV, ifE, slEV, ixR, callV, lenC, isiC, tyN, pick, retEV, callP, argD, argDs, seqS, bkS, ctS, exprS, retS, retNS, ifS, evSl, setS, SK.loop, gN, gNil, gCons, gT, asgS, parS, defF, defK, raiseS, absC, divmodC, mmC, stL, itL, itT, itR1, itR2, itE, shL, itZ, itV, forS, evD, methL, appL, clrL, popL, insL, trL, extL, setixS, argS, argSs, callI, callN, hereA, nextA, negE, itS, wipeR, compE, compD, yesT, seqD, listC, tupC, numd, zipd, nxS, frSl, retSl, retSls, retOk, retOks, tryAsS, tryOnlyS, lookB, kinE, xfE, lookF, frzE, isTR, isTB, allC, blsD, gU, raiseIS, at0, at1, at2, at3, lrE, sortC, intC, intsD, slE, intO, cutD, eqXR, slX, addT, repT, inR, cmpO, heldR, appT, lrE, sortC, intC, intsD, slE, intO, cutD, eqXR, slX, addT, repT, compX, compDx, neYR, lrevE, strC, intTC, strE, splS, joiS, slZ, itC, inSR, strsD, compZ, compDz, optD]
        by_cases b1 : b = 1
        · rw [if_pos (by omega)]
          simp [b1] at h
          exact h
        · rw [if_neg (by omega)]
          refine fr_r1 ?_
          dsimp only at h
          rw [if_neg b1] at h
          by_cases c : 0 < b ∧ Nat.gcd a b = 1
          · rw [if_neg (by rintro (⟨z, _⟩ | z); cases z; exact z c)] at h
            have hb : (0 : Int) < b := by omega
            have hg : Int.gcd (a : Int) (b : Int) = 1 := c.2
            rw [if_neg (by rintro (⟨z, _⟩ | z); cases z; exact z ⟨hb, hg⟩)]
            rw [show fracD (some _) = _ from fr_two hb (show Int.gcd (if false = true then -(a : Int) else (a : Int)) (b : Int) = 1 from hg)] at h
            simp [pick, retSls, retSl, retOk, retOks]
            exact h
          · rw [if_pos (.inr c)] at h
            rw [if_pos (.inr fun z => c ⟨by omega, z.2⟩)]
            simp [pick, retSls, retSl, retOk, retOks]
            exact h
      · simp [sf_fraction_in_r4, sf_fraction_in_r3, sf_fraction_in_r2, cE, vE, bE, rE, fE, mE, bin, nilA, consA, bT, andT, orT, notT, tupE, lstE, allV, allM, okB, intR, addR, asL, asT, asD, eqR, eqD_nn, eqD_bb, eqD_ii, eqD_ss, eqD_tt, eqD_ll, eqD_bi, eqD_ib, eqD_nt, eqD_tn, eqD_it, eqD_ti, eqD_ni, eqD_in, eqDs_nn, eqDs_cc, eqDs_nc, eqDs_cn, cmpD, cmpDs, depD, depDs, isNon, isNR, chainE, tvE, andV, orV, notV, ifE, slEV, ixR, callV, lenC, isiC, tyN, pick, retEV, callP, argD, argDs, seqS, bkS, ctS, exprS, retS, retNS, ifS, evSl, setS, SK.loop, gN, gNil, gCons, gT, asgS, parS, defF, defK, raiseS, absC, divmodC, mmC, stL, itL, itT, itR1, itR2, itE, shL, itZ, itV, forS, evD, methL, appL, clrL, popL, insL, trL, extL, setixS, argS, argSs, callI, callN, hereA, nextA, negE, itS, wipeR, compE, compD, yesT, seqD, listC, tupC, numd, zipd, nxS, frSl, retSl, retSls, retOk, retOks, tryAsS, tryOnlyS, lookB, kinE, xfE, lookF, frzE, isTR, isTB, allC, blsD, gU, raiseIS, at0, at1, at2, at3, lrE, sortC, intC, intsD, slE, intO, cutD, eqXR, slX, addT, repT, inR, cmpO, heldR, appT, lrE, sortC, intC, intsD, slE, intO, cutD, eqXR, slX, addT, repT, compX, compDx, neYR, lrevE, strC, intTC, strE, splS, joiS, slZ, itC, inSR, strsD, compZ, compDz, optD]
        by_cases b1 : b = 1
        · rw [if_pos (by omega)]
          simp [b1] at h
          exact h
        · rw [if_neg (by omega)]
          refine fr_r1 ?_
          dsimp only at h
          rw [if_neg b1] at h
          by_cases c : (0 < b ∧ Nat.gcd a b = 1) ∧ a ≠ 0
          · obtain ⟨c, a0⟩ := c
            rw [if_neg (by rintro (⟨_, z⟩ | z); exact a0 z; exact z c)] at h
            have hb : (0 : Int) < b := by omega
            have hg : Int.gcd (-(a : Int)) (b : Int) = 1 := by rw [Int.neg_gcd]; exact c.2
            rw [if_neg (by rintro (⟨_, z⟩ | z); omega; exact z ⟨hb, hg⟩)]
            rw [show fracD (some _) = _ from fr_two hb (show Int.gcd (if true = true then -(a : Int) else (a : Int)) (b : Int) = 1 from hg)] at h
            simp [pick, retSls, retSl, retOk, retOks]
            exact h
          · have c1 : (true = true ∧ a = 0) ∨ ¬ (0 < b ∧ Nat.gcd a b = 1) := by
              by_cases a0 : a = 0
              · exact .inl ⟨rfl, a0⟩
              · exact .inr fun z => c ⟨z, a0⟩
            rw [if_pos c1] at h
            rw [if_pos (by
              rcases c1 with c1 | c1
              · exact .inl ⟨rfl, by omega⟩
              · exact .inr fun z => c1 ⟨by omega, by have := z.2; rw [Int.neg_gcd] at this; exact this⟩)]
            simp [pick, retSls, retSl, retOk, retOks]
            exact h
    | x :: y :: z :: r, _ =>
      have lt2 : (2 : Int) < (r.length : Int) + 1 + 1 + 1 := by omega
      have hn : K (.v .non) [] := by cases x <;> cases y <;> exact h
      simp [sf_fraction_in_r4, cE, vE, bE, rE, fE, mE, bin, nilA, consA, bT, andT, orT, notT, tupE, lstE, allV, allM, okB, intR, addR, asL, asT, asD, eqR, eqD_nn, eqD_bb, eqD_ii, eqD_ss, eqD_tt, eqD_ll, eqD_bi, eqD_ib, eqD_nt, eqD_tn, eqD_it, eqD_ti, eqD_ni, eqD_in, eqDs_nn, eqDs_cc, eqDs_nc, eqDs_cn, cmpD, cmpDs, depD, depDs, isNon, isNR, chainE, tvE, andV, orV, notV, ifE, slEV, ixR, callV, lenC, isiC, tyN, pick, retEV, callP, argD, argDs, seqS, bkS, ctS, exprS, retS, retNS, ifS, evSl, setS, SK.loop, gN, gNil, gCons, gT, asgS, parS, defF, defK, raiseS, absC, divmodC, mmC, stL, itL, itT, itR1, itR2, itE, shL, itZ, itV, forS, evD, methL, appL, clrL, popL, insL, trL, extL, setixS, argS, argSs, callI, callN, hereA, nextA, negE, itS, wipeR, compE, compD, yesT, seqD, listC, tupC, numd, zipd, nxS, frSl, retSl, retSls, retOk, retOks, tryAsS, tryOnlyS, lookB, kinE, xfE, lookF, frzE, isTR, isTB, allC, blsD, gU, raiseIS, at0, at1, at2, at3, lrE, sortC, intC, intsD, slE, intO, cutD, eqXR, slX, addT, repT, inR, cmpO, heldR, appT, lrE, sortC, intC, intsD, slE, intO, cutD, eqXR, slX, addT, repT, compX, compDx, neYR, lrevE, strC, intTC, strE, splS, joiS, slZ, itC, inSR, strsD, compZ, compDz, lt2, cmp_optD1, cmp_optD]
      exact hn
theorem fracL_sm {l : List Nat} {q : Rat} (h : fracL l = some q) : SmT q := by
  unfold fracL at h
  have hb : ∀ a : Nat, some a ∈ (partsL l).map wholeL → a < 10 ^ 100 := fun a ha => by
    obtain ⟨p, _, e⟩ := List.mem_map.mp ha
    exact wholeL_lt e
  generalize (partsL l).map wholeL = ws at *
  have ab : ∀ a : Nat, (if negL l = true then -(a : Int) else (a : Int)).natAbs = a := fun a => by split <;> omega
  match ws with
  | [none] => cases h
  | [none, y] => cases y <;> cases h
  | [some x, none] => cases h
  | [some a] =>
    dsimp only at h
    split at h
    · cases h
    · injection h with h
      subst h
      refine ⟨?_, ?_⟩
      · rw [Rat.num_intCast, ab]; exact hb a (by simp)
      · rw [Rat.den_intCast]; decide
  | [some a, some b] =>
    dsimp only at h
    split at h
    · cases h
    · split at h
      · cases h
      · rename_i c
        injection h with h
        subst h
        have c2 : 0 < b ∧ Nat.gcd a b = 1 := Classical.byContradiction fun z => c (.inr z)
        have hg : Int.gcd (if negL l = true then -(a : Int) else (a : Int)) (b : Int) = 1 := by
          show Nat.gcd (Int.natAbs _) (Int.natAbs _) = 1
          rw [ab]
          exact c2.2
        obtain ⟨h1, h2⟩ := (fit_eq (by omega : (0 : Int) < b)).mpr hg
        refine ⟨?_, ?_⟩
        · rw [h1, ab]; exact hb a (by simp)
        · have : (Rat.den _ : Int) = (b : Int) := h2
          have hb2 := hb b (by simp)
          have e := Int.ofNat.inj this
          rw [e]
          exact hb2
  | [] => cases h
  | x :: y :: z :: r => cases x <;> cases y <;> cases h
theorem SmT.sm {q : Rat} (h : SmT q) : Sm 400 q := by
  have e : (10 : Nat) ^ 100 < 2 ^ 400 := by decide
  exact ⟨Nat.lt_trans h.n e, by show Int.natAbs ((q.den : Nat) : Int) < _; rw [Int.natAbs_natCast]; exact Nat.lt_trans h.d e⟩
theorem okQ_frac (l : List Nat) : okQ (fracD (fracL l)) := by
  cases e : fracL l with
  | none => trivial
  | some q => exact okQ_D ((fracL_sm e).sm.mono (by decide))
theorem isFr_frac (x : Option Rat) : isFr (fracD x) = x.isSome := by
  cases x with
  | none => rfl
  | some q => exact isFr_D q
theorem ret_frac (x : Option Rat) : retOk (fracD x) = true := by cases x <;> simp [fracD, retOk, retOks]
theorem ret_opt (x : Option Nat) : retOk (optD x) = true := by cases x <;> simp [optD, retOk]
theorem isI_opt (x : Option Nat) : isI (optD x) ≠ none := by cases x <;> simp [optD, isI]
theorem wt_opt (x : Option Nat) : wtD (optD x) = (match x with | some m => decide (1 ≤ m ∧ m ≤ 1000) | none => false) := by
  cases x with
  | none => rfl
  | some m =>
    show (decide (1 ≤ (m : Int)) && decide ((m : Int) ≤ 1000)) = decide (1 ≤ m ∧ m ≤ 1000)
    have e1 : decide (1 ≤ (m : Int)) = decide (1 ≤ m) := by congr 1; apply propext; omega
    have e2 : decide ((m : Int) ≤ 1000) = decide (m ≤ 1000) := by congr 1; apply propext; omega
    rw [e1, e2]
    by_cases h1 : 1 ≤ m <;> by_cases h2 : m ≤ 1000 <;> simp [h1, h2]
theorem to_body_in : ∀ ss K E, F_body_in ss K E → defF [false] 3 sf_body_in ss K E := fun ss K E h => by
  obtain ⟨l, rfl, hl0, h⟩ := h
  have hl : l.length + 2 ≤ sizeLine := by unfold sizeLine; omega
  have es : (PySem.Txt.split (S l) (S [32])).map D.str = (TL.spl [32] 0 [] l).map strL := splS_S (by decide)
  have lp : (TL.spl [32] 0 [] l).length ≤ l.length + 1 := Nat.le_trans (spl_len _ _ _) (by omega)
  have lq := spl_part (s := [32]) l [] 0
  simp [sf_body_in, cE, vE, bE, rE, fE, mE, bin, nilA, consA, bT, andT, orT, notT, tupE, lstE, allV, allM, okB, intR, addR, asL, asT, asD, eqR, eqD_nn, eqD_bb, eqD_ii, eqD_ss, eqD_tt, eqD_ll, eqD_bi, eqD_ib, eqD_nt, eqD_tn, eqD_it, eqD_ti, eqD_ni, eqD_in, eqDs_nn, eqDs_cc, eqDs_nc, eqDs_cn, cmpD, cmpDs, depD, depDs, isNon, isNR, chainE, tvE, andV, orV, notV, ifE, slEV, ixR, callV, lenC, isiC, tyN, pick, retEV, callP, argD, argDs, seqS, bkS, ctS, exprS, retS, retNS, ifS, evSl, setS, SK.loop, gN, gNil, gCons, gT, asgS, parS, defF, defK, raiseS, absC, divmodC, mmC, stL, itL, itT, itR1, itR2, itE, shL, itZ, itV, forS, evD, methL, appL, clrL, popL, insL, trL, extL, setixS, argS, argSs, callI, callN, hereA, nextA, negE, itS, wipeR, compE, compD, yesT, seqD, listC, tupC, numd, zipd, nxS, frSl, retSl, retSls, retOk, retOks, tryAsS, tryOnlyS, lookB, kinE, xfE, lookF, frzE, isTR, isTB, allC, blsD, gU, raiseIS, at0, at1, at2, at3, lrE, sortC, intC, intsD, slE, intO, cutD, eqXR, slX, addT, repT, inR, cmpO, heldR, appT, lrE, sortC, intC, intsD, slE, intO, cutD, eqXR, slX, addT, repT, compX, compDx, neYR, lrevE, strC, intTC, strE, splS, joiS, slZ, itC, inSR, strsD, compZ, compDz, s_blank]
  rw [es]
  have ls : (PySem.Txt.split (S l) (S [32])).length = (TL.spl [32] 0 [] l).length := by
    have := congrArg List.length es
    simpa using this
  have el : (S l).length = l.length := SX.S_len l
  have el32 : (S [32]).length = 1 := SX.S_len _
  rw [ls, el, el32]
  unfold bodyL at h
  generalize TL.spl [32] 0 [] l = ps at *
  refine ⟨⟨by omega, hl⟩, ?_⟩
  match ps with
  | [x, y, z] =>
    dsimp only at h
    simp [strL]
    refine ⟨x, rfl, by have := lq x (by simp); simp at this; omega, y, rfl, by have := lq y (by simp); simp at this; omega, z, rfl, by have := lq z (by simp); simp at this; omega, ?_⟩
    show _ ∧ _ ∧ _ ∧ _
    refine ⟨trivial, trivial, trivial, ?_⟩
    show F_is_body [.v (.tup [fracD (fracL x), fracD (fracL y), optD (wholeL z)])] _ _
    refine ⟨_, rfl, ⟨okQ_frac x, okQ_frac y, isI_opt _⟩, ?_⟩
    have e : isBd (.tup [fracD (fracL x), fracD (fracL y), optD (wholeL z)]) = (((fracL x).isSome && (fracL y).isSome) && (match wholeL z with | some m => decide (1 ≤ m ∧ m ≤ 1000) | none => false)) := by
      show ((isFr _ && isFr _) && wtD _) = _
      rw [isFr_frac, isFr_frac, wt_opt]
    rw [e]
    have hr : retOks [fracD (fracL x), fracD (fracL y), optD (wholeL z)] = true := by simp [retOks, ret_frac, ret_opt]
    clear e
    generalize fracL x = fx at h hr ⊢
    generalize fracL y = fy at h hr ⊢
    generalize wholeL z = wz at h hr ⊢
    cases fx with
    | none => exact h
    | some p =>
      cases fy with
      | none => exact h
      | some u =>
        cases wz with
        | none => exact h
        | some m =>
          dsimp only at h ⊢
          by_cases c : 1 ≤ m ∧ m ≤ 1000
          · rw [if_pos c] at h
            simp only [Option.isSome, Bool.true_and, decide_eq_true c, if_true]
            exact ⟨hr, h⟩
          · rw [if_neg c] at h
            simp only [Option.isSome, Bool.true_and, decide_eq_false c]
            exact h
  | [] => simp; exact h
  | [x] => simp; exact h
  | [x, y] => simp; exact h
  | x :: y :: z :: u :: r =>
    have : ¬ ((r.length : Int) + 1 + 1 + 1 + 1 = 3) := by omega
    simp [this]; exact h
theorem bodyL_sm {l : List Nat} {b : Bw} (h : bodyL l = some b) : SmT b.p ∧ SmT b.u ∧ 1 ≤ b.m ∧ b.m ≤ 1000 := by
  unfold bodyL at h
  split at h
  · split at h
    · rename_i h1 h2 h3
      split at h
      · cases h
        exact ⟨fracL_sm h1, fracL_sm h2, by show (1 : Int) ≤ ((_ : Nat) : Int); omega, by show ((_ : Nat) : Int) ≤ 1000; omega⟩
      · cases h
    · cases h
  · cases h
theorem at_neg1 {α : Type} {xs : List α} {y : α} : L2.atI (xs ++ [y]) (-1) = some y := by
  have e : (-1 + (((xs ++ [y]).length : Nat) : Int)).toNat = xs.length := by simp; omega
  unfold L2.atI L2.ixN
  rw [if_neg (by omega), if_pos (by simp; omega), Option.bind_some, e]
  simp
theorem ret_ws : ∀ bs : List Bw, retOks (bs.map wD) = true
  | [] => rfl
  | b :: bs => by
    rw [List.map_cons]
    show (retOk (wD b) && retOks _) = true
    rw [ret_ws bs]
    rfl
theorem rd_r1 {z : D} {acc : List Bw} {n : Nat} {s3 : Sl} {b : Bw} {k : SK} (ha : ∀ b ∈ acc, SmT b.p) (hb : SmT b.p) (hl : acc.length < 1000000)
    (h : if fitsL acc b = true then k.nx [.v z, .l ((acc ++ [b]).map wD), .v (.int (n : Nat)), s3, .v (wD b)] else k.ex (noText n) [.v z, .l (acc.map wD), .v (.int (n : Nat)), s3, .v (wD b)]) :
    sf_read_world_r1 [.v z, .l (acc.map wD), .v (.int (n : Nat)), s3, .v (wD b)] k := by
  have cw := cmp_w acc
  rcases List.eq_nil_or_concat acc with rfl | ⟨a', a, rfl⟩
  · have e : fitsL [] b = true := rfl
    rw [if_pos e] at h
    simp [sf_read_world_r1, cE, vE, bE, rE, fE, mE, bin, nilA, consA, bT, andT, orT, notT, tupE, lstE, allV, allM, okB, intR, addR, asL, asT, asD, eqR, eqD_nn, eqD_bb, eqD_ii, eqD_ss, eqD_tt, eqD_ll, eqD_bi, eqD_ib, eqD_nt, eqD_tn, eqD_it, eqD_ti, eqD_ni, eqD_in, eqDs_nn, eqDs_cc, eqDs_nc, eqDs_cn, cmpD, cmpDs, depD, depDs, isNon, isNR, chainE, tvE, andV, orV, notV, ifE, slEV, ixR, callV, lenC, isiC, tyN, pick, retEV, callP, argD, argDs, seqS, bkS, ctS, exprS, retS, retNS, ifS, evSl, setS, SK.loop, gN, gNil, gCons, gT, asgS, parS, defF, defK, raiseS, absC, divmodC, mmC, stL, itL, itT, itR1, itR2, itE, shL, itZ, itV, forS, evD, methL, appL, clrL, popL, insL, trL, extL, setixS, argS, argSs, callI, callN, hereA, nextA, negE, itS, wipeR, compE, compD, yesT, seqD, listC, tupC, numd, zipd, nxS, frSl, retSl, retSls, retOk, retOks, tryAsS, tryOnlyS, lookB, kinE, xfE, lookF, frzE, isTR, isTB, allC, blsD, gU, raiseIS, at0, at1, at2, at3, lrE, sortC, intC, intsD, slE, intO, cutD, eqXR, slX, addT, repT, inR, cmpO, heldR, appT, lrE, sortC, intC, intsD, slE, intO, cutD, eqXR, slX, addT, repT, compX, compDx, neYR, lrevE, strC, intTC, strE, splS, joiS, slZ, itC, inSR, strsD, compZ, compDz]
    exact h
  · rw [List.concat_eq_append] at *
    have e : fitsL (a' ++ [a]) b = decide (a.p < b.p) := by unfold fitsL; rw [List.getLast?_append]; rfl
    rw [e] at h
    have la : L2.atI (a'.map wD ++ [.tup [frD a.p, frD a.u, .int a.m]]) (-1) = some (.tup [frD a.p, frD a.u, .int a.m]) := at_neg1
    have ne : eqDs (a'.map wD ++ [.tup [frD a.p, frD a.u, .int a.m]]) [] = false := by cases a' <;> simp [eqDs]
    have sa := (ha a (by simp)).sm
    have sb := hb.sm
    have na : ¬ (a.p.den : Int) = 0 := by have := a.p.den_pos; omega
    have da : (0 : Int) < a.p.den := by have := a.p.den_pos; omega
    have db : (0 : Int) < b.p.den := by have := b.p.den_pos; omega
    have i4 : (400 : Nat) ≤ 4000 := by decide
    have cw2 : cmpDs (a'.map wD ++ [.tup [frD a.p, frD a.u, .int a.m]]) = true := by rw [List.map_append] at cw; exact cw
    simp at hl
    simp [sf_read_world_r1, cE, vE, bE, rE, fE, mE, bin, nilA, consA, bT, andT, orT, notT, tupE, lstE, allV, allM, okB, intR, addR, asL, asT, asD, eqR, eqD_nn, eqD_bb, eqD_ii, eqD_ss, eqD_tt, eqD_ll, eqD_bi, eqD_ib, eqD_nt, eqD_tn, eqD_it, eqD_ti, eqD_ni, eqD_in, eqDs_nn, eqDs_cc, eqDs_nc, eqDs_cn, cmpD, cmpDs, depD, depDs, isNon, isNR, chainE, tvE, andV, orV, notV, ifE, slEV, ixR, callV, lenC, isiC, tyN, pick, retEV, callP, argD, argDs, seqS, bkS, ctS, exprS, retS, retNS, ifS, evSl, setS, SK.loop, gN, gNil, gCons, gT, asgS, parS, defF, defK, raiseS, absC, divmodC, mmC, stL, itL, itT, itR1, itR2, itE, shL, itZ, itV, forS, evD, methL, appL, clrL, popL, insL, trL, extL, setixS, argS, argSs, callI, callN, hereA, nextA, negE, itS, wipeR, compE, compD, yesT, seqD, listC, tupC, numd, zipd, nxS, frSl, retSl, retSls, retOk, retOks, tryAsS, tryOnlyS, lookB, kinE, xfE, lookF, frzE, isTR, isTB, allC, blsD, gU, raiseIS, at0, at1, at2, at3, lrE, sortC, intC, intsD, slE, intO, cutD, eqXR, slX, addT, repT, inR, cmpO, heldR, appT, lrE, sortC, intC, intsD, slE, intO, cutD, eqXR, slX, addT, repT, compX, compDx, neYR, lrevE, strC, intTC, strE, splS, joiS, slZ, itC, inSR, strsD, compZ, compDz, ne, la, wD, F_under, cw2, nd]
    by_cases c : a.p < b.p
    · rw [if_pos (decide_eq_true c)] at h
      simp [wD] at h
      try simp [c]
      exact ⟨⟨a.p.den_pos, b.p.den_pos, sa.n.mono i4, sa.d.mono i4, sb.n.mono i4, sb.d.mono i4⟩, by omega, h⟩
    · rw [if_neg (by simpa using c)] at h
      simp [wD] at h
      try simp [c]
      exact ⟨⟨a.p.den_pos, b.p.den_pos, sa.n.mono i4, sa.d.mono i4, sb.n.mono i4, sb.d.mono i4⟩, h⟩
theorem rd_loop {z : D} {k : SK} : ∀ (ls : List (List Nat)) (n : Nat) (acc : List Bw) (s2 s3 s4 : Sl), (∀ p ∈ ls, p.length ≤ 100000) → (∀ b ∈ acc, SmT b.p) → acc.length = n → n ≤ 12 →
    (match readGo n acc ls with
      | .ok bs => ∀ s2 s3 s4, k.nx [.v z, .l (bs.map wD), s2, s3, s4]
      | .error m => ∀ r s2 s3 s4, k.ex (noText m) [.v z, r, s2, s3, s4]) →
    loopS (gT 2 (gCons (gN 2 true) (gCons (gN 3 true) gNil))) (seqS (setS 4 true (callP F_body_in [] (consA true (vE 3) nilA))) sf_read_world_r2) (numd n (ls.map strL)) [.v z, .l (acc.map wD), s2, s3, s4] k
  | [], n, acc, s2, s3, s4, _, _, _, _, h => by
    unfold readGo at h
    exact h _ _ _
  | l :: ls, n, acc, s2, s3, s4, hp, ha, hn, hn2, h => by
    unfold readGo at h
    rw [List.map_cons]
    unfold numd loopS
    simp [cE, vE, bE, rE, fE, mE, bin, nilA, consA, bT, andT, orT, notT, tupE, lstE, allV, allM, okB, intR, addR, asL, asT, asD, eqR, eqD_nn, eqD_bb, eqD_ii, eqD_ss, eqD_tt, eqD_ll, eqD_bi, eqD_ib, eqD_nt, eqD_tn, eqD_it, eqD_ti, eqD_ni, eqD_in, eqDs_nn, eqDs_cc, eqDs_nc, eqDs_cn, cmpD, cmpDs, depD, depDs, isNon, isNR, chainE, tvE, andV, orV, notV, ifE, slEV, ixR, callV, lenC, isiC, tyN, pick, retEV, callP, argD, argDs, seqS, bkS, ctS, exprS, retS, retNS, ifS, evSl, setS, SK.loop, gN, gNil, gCons, gT, asgS, parS, defF, defK, raiseS, absC, divmodC, mmC, stL, itL, itT, itR1, itR2, itE, shL, itZ, itV, forS, evD, methL, appL, clrL, popL, insL, trL, extL, setixS, argS, argSs, callI, callN, hereA, nextA, negE, itS, wipeR, compE, compD, yesT, seqD, listC, tupC, numd, zipd, nxS, frSl, retSl, retSls, retOk, retOks, tryAsS, tryOnlyS, lookB, kinE, xfE, lookF, frzE, isTR, isTB, allC, blsD, gU, raiseIS, at0, at1, at2, at3, lrE, sortC, intC, intsD, slE, intO, cutD, eqXR, slX, addT, repT, inR, cmpO, heldR, appT, lrE, sortC, intC, intsD, slE, intO, cutD, eqXR, slX, addT, repT, compX, compDx, neYR, lrevE, strC, intTC, strE, splS, joiS, slZ, itC, inSR, strsD, compZ, compDz]
    refine ⟨l, rfl, hp l List.mem_cons_self, ?_⟩
    dsimp only
    cases eb : bodyL l with
    | none =>
      rw [eb] at h
      dsimp only [bodyD] at h ⊢
      simp [sf_read_world_r2, cE, vE, bE, rE, fE, mE, bin, nilA, consA, bT, andT, orT, notT, tupE, lstE, allV, allM, okB, intR, addR, asL, asT, asD, eqR, eqD_nn, eqD_bb, eqD_ii, eqD_ss, eqD_tt, eqD_ll, eqD_bi, eqD_ib, eqD_nt, eqD_tn, eqD_it, eqD_ti, eqD_ni, eqD_in, eqDs_nn, eqDs_cc, eqDs_nc, eqDs_cn, cmpD, cmpDs, depD, depDs, isNon, isNR, chainE, tvE, andV, orV, notV, ifE, slEV, ixR, callV, lenC, isiC, tyN, pick, retEV, callP, argD, argDs, seqS, bkS, ctS, exprS, retS, retNS, ifS, evSl, setS, SK.loop, gN, gNil, gCons, gT, asgS, parS, defF, defK, raiseS, absC, divmodC, mmC, stL, itL, itT, itR1, itR2, itE, shL, itZ, itV, forS, evD, methL, appL, clrL, popL, insL, trL, extL, setixS, argS, argSs, callI, callN, hereA, nextA, negE, itS, wipeR, compE, compD, yesT, seqD, listC, tupC, numd, zipd, nxS, frSl, retSl, retSls, retOk, retOks, tryAsS, tryOnlyS, lookB, kinE, xfE, lookF, frzE, isTR, isTB, allC, blsD, gU, raiseIS, at0, at1, at2, at3, lrE, sortC, intC, intsD, slE, intO, cutD, eqXR, slX, addT, repT, inR, cmpO, heldR, appT, lrE, sortC, intC, intsD, slE, intO, cutD, eqXR, slX, addT, repT, compX, compDx, neYR, lrevE, strC, intTC, strE, splS, joiS, slZ, itC, inSR, strsD, compZ, compDz]
      exact h _ _ _ _
    | some b =>
      rw [eb] at h
      obtain ⟨sp, su, m1, m2⟩ := bodyL_sm eb
      dsimp only at h
      have ih := fun s2 s3 s4 => rd_loop (z := z) (k := k) ls (n + 1) (acc ++ [b]) s2 s3 s4 (fun p hp' => hp p (List.mem_cons_of_mem _ hp')) (fun c hc => by
        rcases List.mem_append.mp hc with hc | hc
        · exact ha c hc
        · rw [List.mem_singleton.mp hc]; exact sp) (by simp; omega)
      simp [sf_read_world_r2, cE, vE, bE, rE, fE, mE, bin, nilA, consA, bT, andT, orT, notT, tupE, lstE, allV, allM, okB, intR, addR, asL, asT, asD, eqR, eqD_nn, eqD_bb, eqD_ii, eqD_ss, eqD_tt, eqD_ll, eqD_bi, eqD_ib, eqD_nt, eqD_tn, eqD_it, eqD_ti, eqD_ni, eqD_in, eqDs_nn, eqDs_cc, eqDs_nc, eqDs_cn, cmpD, cmpDs, depD, depDs, isNon, isNR, chainE, tvE, andV, orV, notV, ifE, slEV, ixR, callV, lenC, isiC, tyN, pick, retEV, callP, argD, argDs, seqS, bkS, ctS, exprS, retS, retNS, ifS, evSl, setS, SK.loop, gN, gNil, gCons, gT, asgS, parS, defF, defK, raiseS, absC, divmodC, mmC, stL, itL, itT, itR1, itR2, itE, shL, itZ, itV, forS, evD, methL, appL, clrL, popL, insL, trL, extL, setixS, argS, argSs, callI, callN, hereA, nextA, negE, itS, wipeR, compE, compD, yesT, seqD, listC, tupC, numd, zipd, nxS, frSl, retSl, retSls, retOk, retOks, tryAsS, tryOnlyS, lookB, kinE, xfE, lookF, frzE, isTR, isTB, allC, blsD, gU, raiseIS, at0, at1, at2, at3, lrE, sortC, intC, intsD, slE, intO, cutD, eqXR, slX, addT, repT, inR, cmpO, heldR, appT, lrE, sortC, intC, intsD, slE, intO, cutD, eqXR, slX, addT, repT, compX, compDx, neYR, lrevE, strC, intTC, strE, splS, joiS, slZ, itC, inSR, strsD, compZ, compDz, bodyD]
      by_cases c : n = 12
      · rw [if_pos (show (n : Int) = 12 by omega)]
        rw [if_pos c] at h
        exact h _ _ _ _
      · rw [if_neg (show ¬ (n : Int) = 12 by omega)]
        rw [if_neg c] at h
        refine rd_r1 ha sp (by omega) ?_
        by_cases f : fitsL acc b = true
        · rw [if_pos f] at h ⊢
          exact ih _ _ _ (by omega) h
        · rw [if_neg f] at h ⊢
          exact h _ _ _ _
theorem to_read_world : ∀ ss K E, F_read_world ss K E → defF [false] 5 sf_read_world ss K E := fun ss K E h => by
  obtain ⟨d, rfl, h⟩ := h
  rcases h with ⟨h1, h⟩ | ⟨l, rfl, hl0, h⟩
  · cases d with
    | str _ => cases h1
    | ty _ => cases h1
    | fn _ => cases h1
    | int i => simp [sf_read_world, cE, vE, bE, rE, fE, mE, bin, nilA, consA, bT, andT, orT, notT, tupE, lstE, allV, allM, okB, intR, addR, asL, asT, asD, eqR, eqD_nn, eqD_bb, eqD_ii, eqD_ss, eqD_tt, eqD_ll, eqD_bi, eqD_ib, eqD_nt, eqD_tn, eqD_it, eqD_ti, eqD_ni, eqD_in, eqDs_nn, eqDs_cc, eqDs_nc, eqDs_cn, cmpD, cmpDs, depD, depDs, isNon, isNR, chainE, tvE, andV, orV, notV, ifE, slEV, ixR, callV, lenC, isiC, tyN, pick, retEV, callP, argD, argDs, seqS, bkS, ctS, exprS, retS, retNS, ifS, evSl, setS, SK.loop, gN, gNil, gCons, gT, asgS, parS, defF, defK, raiseS, absC, divmodC, mmC, stL, itL, itT, itR1, itR2, itE, shL, itZ, itV, forS, evD, methL, appL, clrL, popL, insL, trL, extL, setixS, argS, argSs, callI, callN, hereA, nextA, negE, itS, wipeR, compE, compD, yesT, seqD, listC, tupC, numd, zipd, nxS, frSl, retSl, retSls, retOk, retOks, tryAsS, tryOnlyS, lookB, kinE, xfE, lookF, frzE, isTR, isTB, allC, blsD, gU, raiseIS, at0, at1, at2, at3, lrE, sortC, intC, intsD, slE, intO, cutD, eqXR, slX, addT, repT, inR, cmpO, heldR, appT, lrE, sortC, intC, intsD, slE, intO, cutD, eqXR, slX, addT, repT, compX, compDx, neYR, lrevE, strC, intTC, strE, splS, joiS, slZ, itC, inSR, strsD, compZ, compDz, kb]; exact h
    | bl b => simp [sf_read_world, cE, vE, bE, rE, fE, mE, bin, nilA, consA, bT, andT, orT, notT, tupE, lstE, allV, allM, okB, intR, addR, asL, asT, asD, eqR, eqD_nn, eqD_bb, eqD_ii, eqD_ss, eqD_tt, eqD_ll, eqD_bi, eqD_ib, eqD_nt, eqD_tn, eqD_it, eqD_ti, eqD_ni, eqD_in, eqDs_nn, eqDs_cc, eqDs_nc, eqDs_cn, cmpD, cmpDs, depD, depDs, isNon, isNR, chainE, tvE, andV, orV, notV, ifE, slEV, ixR, callV, lenC, isiC, tyN, pick, retEV, callP, argD, argDs, seqS, bkS, ctS, exprS, retS, retNS, ifS, evSl, setS, SK.loop, gN, gNil, gCons, gT, asgS, parS, defF, defK, raiseS, absC, divmodC, mmC, stL, itL, itT, itR1, itR2, itE, shL, itZ, itV, forS, evD, methL, appL, clrL, popL, insL, trL, extL, setixS, argS, argSs, callI, callN, hereA, nextA, negE, itS, wipeR, compE, compD, yesT, seqD, listC, tupC, numd, zipd, nxS, frSl, retSl, retSls, retOk, retOks, tryAsS, tryOnlyS, lookB, kinE, xfE, lookF, frzE, isTR, isTB, allC, blsD, gU, raiseIS, at0, at1, at2, at3, lrE, sortC, intC, intsD, slE, intO, cutD, eqXR, slX, addT, repT, inR, cmpO, heldR, appT, lrE, sortC, intC, intsD, slE, intO, cutD, eqXR, slX, addT, repT, compX, compDx, neYR, lrevE, strC, intTC, strE, splS, joiS, slZ, itC, inSR, strsD, compZ, compDz, kb]; exact h
    | non => simp [sf_read_world, cE, vE, bE, rE, fE, mE, bin, nilA, consA, bT, andT, orT, notT, tupE, lstE, allV, allM, okB, intR, addR, asL, asT, asD, eqR, eqD_nn, eqD_bb, eqD_ii, eqD_ss, eqD_tt, eqD_ll, eqD_bi, eqD_ib, eqD_nt, eqD_tn, eqD_it, eqD_ti, eqD_ni, eqD_in, eqDs_nn, eqDs_cc, eqDs_nc, eqDs_cn, cmpD, cmpDs, depD, depDs, isNon, isNR, chainE, tvE, andV, orV, notV, ifE, slEV, ixR, callV, lenC, isiC, tyN, pick, retEV, callP, argD, argDs, seqS, bkS, ctS, exprS, retS, retNS, ifS, evSl, setS, SK.loop, gN, gNil, gCons, gT, asgS, parS, defF, defK, raiseS, absC, divmodC, mmC, stL, itL, itT, itR1, itR2, itE, shL, itZ, itV, forS, evD, methL, appL, clrL, popL, insL, trL, extL, setixS, argS, argSs, callI, callN, hereA, nextA, negE, itS, wipeR, compE, compD, yesT, seqD, listC, tupC, numd, zipd, nxS, frSl, retSl, retSls, retOk, retOks, tryAsS, tryOnlyS, lookB, kinE, xfE, lookF, frzE, isTR, isTB, allC, blsD, gU, raiseIS, at0, at1, at2, at3, lrE, sortC, intC, intsD, slE, intO, cutD, eqXR, slX, addT, repT, inR, cmpO, heldR, appT, lrE, sortC, intC, intsD, slE, intO, cutD, eqXR, slX, addT, repT, compX, compDx, neYR, lrevE, strC, intTC, strE, splS, joiS, slZ, itC, inSR, strsD, compZ, compDz, kb]; exact h
    | tup s => simp [sf_read_world, cE, vE, bE, rE, fE, mE, bin, nilA, consA, bT, andT, orT, notT, tupE, lstE, allV, allM, okB, intR, addR, asL, asT, asD, eqR, eqD_nn, eqD_bb, eqD_ii, eqD_ss, eqD_tt, eqD_ll, eqD_bi, eqD_ib, eqD_nt, eqD_tn, eqD_it, eqD_ti, eqD_ni, eqD_in, eqDs_nn, eqDs_cc, eqDs_nc, eqDs_cn, cmpD, cmpDs, depD, depDs, isNon, isNR, chainE, tvE, andV, orV, notV, ifE, slEV, ixR, callV, lenC, isiC, tyN, pick, retEV, callP, argD, argDs, seqS, bkS, ctS, exprS, retS, retNS, ifS, evSl, setS, SK.loop, gN, gNil, gCons, gT, asgS, parS, defF, defK, raiseS, absC, divmodC, mmC, stL, itL, itT, itR1, itR2, itE, shL, itZ, itV, forS, evD, methL, appL, clrL, popL, insL, trL, extL, setixS, argS, argSs, callI, callN, hereA, nextA, negE, itS, wipeR, compE, compD, yesT, seqD, listC, tupC, numd, zipd, nxS, frSl, retSl, retSls, retOk, retOks, tryAsS, tryOnlyS, lookB, kinE, xfE, lookF, frzE, isTR, isTB, allC, blsD, gU, raiseIS, at0, at1, at2, at3, lrE, sortC, intC, intsD, slE, intO, cutD, eqXR, slX, addT, repT, inR, cmpO, heldR, appT, lrE, sortC, intC, intsD, slE, intO, cutD, eqXR, slX, addT, repT, compX, compDx, neYR, lrevE, strC, intTC, strE, splS, joiS, slZ, itC, inSR, strsD, compZ, compDz, kb]; exact h
    | lst s ds => simp [sf_read_world, cE, vE, bE, rE, fE, mE, bin, nilA, consA, bT, andT, orT, notT, tupE, lstE, allV, allM, okB, intR, addR, asL, asT, asD, eqR, eqD_nn, eqD_bb, eqD_ii, eqD_ss, eqD_tt, eqD_ll, eqD_bi, eqD_ib, eqD_nt, eqD_tn, eqD_it, eqD_ti, eqD_ni, eqD_in, eqDs_nn, eqDs_cc, eqDs_nc, eqDs_cn, cmpD, cmpDs, depD, depDs, isNon, isNR, chainE, tvE, andV, orV, notV, ifE, slEV, ixR, callV, lenC, isiC, tyN, pick, retEV, callP, argD, argDs, seqS, bkS, ctS, exprS, retS, retNS, ifS, evSl, setS, SK.loop, gN, gNil, gCons, gT, asgS, parS, defF, defK, raiseS, absC, divmodC, mmC, stL, itL, itT, itR1, itR2, itE, shL, itZ, itV, forS, evD, methL, appL, clrL, popL, insL, trL, extL, setixS, argS, argSs, callI, callN, hereA, nextA, negE, itS, wipeR, compE, compD, yesT, seqD, listC, tupC, numd, zipd, nxS, frSl, retSl, retSls, retOk, retOks, tryAsS, tryOnlyS, lookB, kinE, xfE, lookF, frzE, isTR, isTB, allC, blsD, gU, raiseIS, at0, at1, at2, at3, lrE, sortC, intC, intsD, slE, intO, cutD, eqXR, slX, addT, repT, inR, cmpO, heldR, appT, lrE, sortC, intC, intsD, slE, intO, cutD, eqXR, slX, addT, repT, compX, compDx, neYR, lrevE, strC, intTC, strE, splS, joiS, slZ, itC, inSR, strsD, compZ, compDz, kb]; exact h
    | dct ks ds => simp [sf_read_world, cE, vE, bE, rE, fE, mE, bin, nilA, consA, bT, andT, orT, notT, tupE, lstE, allV, allM, okB, intR, addR, asL, asT, asD, eqR, eqD_nn, eqD_bb, eqD_ii, eqD_ss, eqD_tt, eqD_ll, eqD_bi, eqD_ib, eqD_nt, eqD_tn, eqD_it, eqD_ti, eqD_ni, eqD_in, eqDs_nn, eqDs_cc, eqDs_nc, eqDs_cn, cmpD, cmpDs, depD, depDs, isNon, isNR, chainE, tvE, andV, orV, notV, ifE, slEV, ixR, callV, lenC, isiC, tyN, pick, retEV, callP, argD, argDs, seqS, bkS, ctS, exprS, retS, retNS, ifS, evSl, setS, SK.loop, gN, gNil, gCons, gT, asgS, parS, defF, defK, raiseS, absC, divmodC, mmC, stL, itL, itT, itR1, itR2, itE, shL, itZ, itV, forS, evD, methL, appL, clrL, popL, insL, trL, extL, setixS, argS, argSs, callI, callN, hereA, nextA, negE, itS, wipeR, compE, compD, yesT, seqD, listC, tupC, numd, zipd, nxS, frSl, retSl, retSls, retOk, retOks, tryAsS, tryOnlyS, lookB, kinE, xfE, lookF, frzE, isTR, isTB, allC, blsD, gU, raiseIS, at0, at1, at2, at3, lrE, sortC, intC, intsD, slE, intO, cutD, eqXR, slX, addT, repT, inR, cmpO, heldR, appT, lrE, sortC, intC, intsD, slE, intO, cutD, eqXR, slX, addT, repT, compX, compDx, neYR, lrevE, strC, intTC, strE, splS, joiS, slZ, itC, inSR, strsD, compZ, compDz, kb]; exact h
  · have hl : l.length + 2 ≤ sizeLine := by unfold sizeLine; omega
    have es : (PySem.Txt.split (S l) (S [10])).map D.str = (TL.spl [10] 0 [] l).map strL := splS_S (by decide)
    have el : (S l).length = l.length := SX.S_len l
    have el10 : (S [10]).length = 1 := SX.S_len _
    have lq := spl_part (s := [10]) l [] 0
    simp [sf_read_world, cE, vE, bE, rE, fE, mE, bin, nilA, consA, bT, andT, orT, notT, tupE, lstE, allV, allM, okB, intR, addR, asL, asT, asD, eqR, eqD_nn, eqD_bb, eqD_ii, eqD_ss, eqD_tt, eqD_ll, eqD_bi, eqD_ib, eqD_nt, eqD_tn, eqD_it, eqD_ti, eqD_ni, eqD_in, eqDs_nn, eqDs_cc, eqDs_nc, eqDs_cn, cmpD, cmpDs, depD, depDs, isNon, isNR, chainE, tvE, andV, orV, notV, ifE, slEV, ixR, callV, lenC, isiC, tyN, pick, retEV, callP, argD, argDs, seqS, bkS, ctS, exprS, retS, retNS, ifS, evSl, setS, SK.loop, gN, gNil, gCons, gT, asgS, parS, defF, defK, raiseS, absC, divmodC, mmC, stL, itL, itT, itR1, itR2, itE, shL, itZ, itV, forS, evD, methL, appL, clrL, popL, insL, trL, extL, setixS, argS, argSs, callI, callN, hereA, nextA, negE, itS, wipeR, compE, compD, yesT, seqD, listC, tupC, numd, zipd, nxS, frSl, retSl, retSls, retOk, retOks, tryAsS, tryOnlyS, lookB, kinE, xfE, lookF, frzE, isTR, isTB, allC, blsD, gU, raiseIS, at0, at1, at2, at3, lrE, sortC, intC, intsD, slE, intO, cutD, eqXR, slX, addT, repT, inR, cmpO, heldR, appT, lrE, sortC, intC, intsD, slE, intO, cutD, eqXR, slX, addT, repT, compX, compDx, neYR, lrevE, strC, intTC, strE, splS, joiS, slZ, itC, inSR, strsD, compZ, compDz, kb, s_line]
    rw [es, el, el10]
    refine ⟨⟨by omega, hl⟩, ?_⟩
    refine rd_loop _ 0 [] _ _ _ (fun p hp => by have := lq p hp; simp at this; omega) (by simp) rfl (by omega) ?_
    unfold readL at h
    cases e : readGo 0 [] (TL.spl [10] 0 [] l) with
    | ok bs =>
      rw [e] at h
      intro s2 s3 s4
      simp [sf_read_world_r3, cE, vE, bE, rE, fE, mE, bin, nilA, consA, bT, andT, orT, notT, tupE, lstE, allV, allM, okB, intR, addR, asL, asT, asD, eqR, eqD_nn, eqD_bb, eqD_ii, eqD_ss, eqD_tt, eqD_ll, eqD_bi, eqD_ib, eqD_nt, eqD_tn, eqD_it, eqD_ti, eqD_ni, eqD_in, eqDs_nn, eqDs_cc, eqDs_nc, eqDs_cn, cmpD, cmpDs, depD, depDs, isNon, isNR, chainE, tvE, andV, orV, notV, ifE, slEV, ixR, callV, lenC, isiC, tyN, pick, retEV, callP, argD, argDs, seqS, bkS, ctS, exprS, retS, retNS, ifS, evSl, setS, SK.loop, gN, gNil, gCons, gT, asgS, parS, defF, defK, raiseS, absC, divmodC, mmC, stL, itL, itT, itR1, itR2, itE, shL, itZ, itV, forS, evD, methL, appL, clrL, popL, insL, trL, extL, setixS, argS, argSs, callI, callN, hereA, nextA, negE, itS, wipeR, compE, compD, yesT, seqD, listC, tupC, numd, zipd, nxS, frSl, retSl, retSls, retOk, retOks, tryAsS, tryOnlyS, lookB, kinE, xfE, lookF, frzE, isTR, isTB, allC, blsD, gU, raiseIS, at0, at1, at2, at3, lrE, sortC, intC, intsD, slE, intO, cutD, eqXR, slX, addT, repT, inR, cmpO, heldR, appT, lrE, sortC, intC, intsD, slE, intO, cutD, eqXR, slX, addT, repT, compX, compDx, neYR, lrevE, strC, intTC, strE, splS, joiS, slZ, itC, inSR, strsD, compZ, compDz]
      exact ⟨ret_ws bs, h⟩
    | error m =>
      rw [e] at h
      intro r s2 s3 s4
      simp [cE, vE, bE, rE, fE, mE, bin, nilA, consA, bT, andT, orT, notT, tupE, lstE, allV, allM, okB, intR, addR, asL, asT, asD, eqR, eqD_nn, eqD_bb, eqD_ii, eqD_ss, eqD_tt, eqD_ll, eqD_bi, eqD_ib, eqD_nt, eqD_tn, eqD_it, eqD_ti, eqD_ni, eqD_in, eqDs_nn, eqDs_cc, eqDs_nc, eqDs_cn, cmpD, cmpDs, depD, depDs, isNon, isNR, chainE, tvE, andV, orV, notV, ifE, slEV, ixR, callV, lenC, isiC, tyN, pick, retEV, callP, argD, argDs, seqS, bkS, ctS, exprS, retS, retNS, ifS, evSl, setS, SK.loop, gN, gNil, gCons, gT, asgS, parS, defF, defK, raiseS, absC, divmodC, mmC, stL, itL, itT, itR1, itR2, itE, shL, itZ, itV, forS, evD, methL, appL, clrL, popL, insL, trL, extL, setixS, argS, argSs, callI, callN, hereA, nextA, negE, itS, wipeR, compE, compD, yesT, seqD, listC, tupC, numd, zipd, nxS, frSl, retSl, retSls, retOk, retOks, tryAsS, tryOnlyS, lookB, kinE, xfE, lookF, frzE, isTR, isTB, allC, blsD, gU, raiseIS, at0, at1, at2, at3, lrE, sortC, intC, intsD, slE, intO, cutD, eqXR, slX, addT, repT, inR, cmpO, heldR, appT, lrE, sortC, intC, intsD, slE, intO, cutD, eqXR, slX, addT, repT, compX, compDx, neYR, lrevE, strC, intTC, strE, splS, joiS, slZ, itC, inSR, strsD, compZ, compDz]
      exact h
end VS
set_option Elab.async false
set_option linter.all false
set_option maxRecDepth 100000
set_option maxHeartbeats 4000000
/-! VM138: shown, is_great, need_small, show_body, show_world walked. Own work. -/
namespace VS
open PySem PySem.Spec PyProof.Rows
open L2 (V Hp Cx WX)
open SX (S)
def F_shown : FS := fun ss K _ => ∃ q : Rat, ss = [.v (frD q)] ∧ Sm 1900 q ∧ K (.v (strL (qtxL q))) []
theorem m_shown : MonoF F_shown := fun ss K K' E E' hk he ⟨l, h1, h2, h3⟩ => ⟨l, h1, h2, hk _ _ h3⟩
structure WkT (b : Bw) : Prop where
  p : Sm 1900 b.p
  u : Sm 1900 b.u
  m : Si 1900 b.m
def sf_shown : SS := (seqS (ifS (bT (bin true (bin true (vE 0) (cE (.int 1)) ixR) (cE (.int 1)) (eqR false))) (retS (callV strC (consA true (bin true (vE 0) (cE (.int 0)) ixR) nilA))) nxS)
  (retS (bin true (bin true (callV strC (consA true (bin true (vE 0) (cE (.int 0)) ixR) nilA)) (cE (.str "/")) addR) (callV strC (consA true (bin true (vE 0) (cE (.int 1)) ixR) nilA)) addR)))
theorem nS_S (i : Int) : nS i = S (intL i) := by
  unfold nS intL
  cases i with
  | ofNat n =>
    show Str.ofString (toString ((n : Nat) : Int)) = S (if ((n : Nat) : Int) < 0 then _ else _)
    rw [if_neg (Int.not_lt.mpr (Int.natCast_nonneg n))]
    exact SX.num_S n
  | negSucc n =>
    rw [if_pos (Int.negSucc_lt_zero n)]
    refine TL.ext_tl ?_
    have e : toString (Int.negSucc n) = "-" ++ toString ((n + 1 : Nat)) := rfl
    rw [e, TL.tl_ofString, String.toList_append, List.map_append]
    have e2 := TL.tl_num (n + 1)
    rw [TL.tl_ofString] at e2
    have e3 : toString (((n + 1 : Nat)) : Int) = toString (n + 1 : Nat) := rfl
    rw [e3] at e2
    rw [e2]
    rfl
theorem numL_le {n : Nat} (h : n < 2 ^ 1900) : (TL.numL n).length ≤ 600 := TL.numL_len (by decide) (Nat.lt_of_lt_of_le h (by decide +kernel))
theorem intL_le {i : Int} (h : Si 1900 i) : (intL i).length ≤ 601 := by
  have := numL_le h
  unfold intL
  split
  · simp; omega
  · omega
theorem qtxL_le {q : Rat} (h : Sm 1900 q) : (qtxL q).length ≤ 1300 := by
  have h1 := intL_le h.n
  have sd : Si 1900 ((q.den : Nat) : Int) := h.d
  have h2 := numL_le (show q.den < 2 ^ 1900 from by unfold Si at sd; rwa [Int.natAbs_natCast] at sd)
  unfold qtxL
  split
  · omega
  · simp; omega
theorem log_of {n : Nat} (h : n < 2 ^ 1900) : n.log2 < 1920 := by
  by_cases z : n = 0
  · rw [z]; decide
  · have := (Nat.log2_lt z).mpr h
    omega
theorem to_shown : ∀ ss K E, F_shown ss K E → defF [false] 1 sf_shown ss K E := fun ss K E h => by
  obtain ⟨q, rfl, hs, h⟩ := h
  have l1 := log_of hs.n
  have sd : Si 1900 ((q.den : Nat) : Int) := hs.d
  have dd : q.den < 2 ^ 1900 := by unfold Si at sd; rwa [Int.natAbs_natCast] at sd
  have l2 := log_of dd
  have en : nS ((q.den : Nat) : Int) = S (TL.numL q.den) := by rw [nS_S, intL_nat]
  have hl := qtxL_le hs
  unfold qtxL at h hl
  simp [sf_shown, cE, vE, bE, rE, fE, mE, bin, nilA, consA, bT, andT, orT, notT, tupE, lstE, allV, allM, okB, intR, addR, asL, asT, asD, eqR, eqD_nn, eqD_bb, eqD_ii, eqD_ss, eqD_tt, eqD_ll, eqD_bi, eqD_ib, eqD_nt, eqD_tn, eqD_it, eqD_ti, eqD_ni, eqD_in, eqDs_nn, eqDs_cc, eqDs_nc, eqDs_cn, cmpD, cmpDs, depD, depDs, isNon, isNR, chainE, tvE, andV, orV, notV, ifE, slEV, ixR, callV, lenC, isiC, tyN, pick, retEV, callP, argD, argDs, seqS, bkS, ctS, exprS, retS, retNS, ifS, evSl, setS, SK.loop, gN, gNil, gCons, gT, asgS, parS, defF, defK, raiseS, absC, divmodC, mmC, stL, itL, itT, itR1, itR2, itE, shL, itZ, itV, forS, evD, methL, appL, clrL, popL, insL, trL, extL, setixS, argS, argSs, callI, callN, hereA, nextA, negE, itS, wipeR, compE, compD, yesT, seqD, listC, tupC, numd, zipd, nxS, frSl, retSl, retSls, retOk, retOks, tryAsS, tryOnlyS, lookB, kinE, xfE, lookF, frzE, isTR, isTB, allC, blsD, gU, raiseIS, at0, at1, at2, at3, lrE, sortC, intC, intsD, slE, intO, cutD, eqXR, slX, addT, repT, inR, cmpO, heldR, appT, lrE, sortC, intC, intsD, slE, intO, cutD, eqXR, slX, addT, repT, compX, compDx, neYR, lrevE, strC, intTC, strE, splS, joiS, slZ, itC, inSR, strsD, compZ, compDz, s_over, nS_S, intL_nat]
  by_cases d1 : q.den = 1
  · rw [if_pos d1] at h
    rw [if_pos (by omega)]
    exact ⟨l1, h⟩
  · rw [if_neg d1] at h hl
    rw [if_neg (by omega)]
    have e1 := SX.S_len (intL q.num)
    have e2 := SX.S_len [47]
    have e3 := SX.S_len (TL.numL q.den)
    have e4 : (S (intL q.num) ++ S [47]).length = (intL q.num).length + 1 := by rw [SX.S_cat, SX.S_len]; simp
    simp at hl
    rw [e4, SX.S_cat, SX.S_cat]
    simp only [List.append_assoc, List.singleton_append] at h ⊢
    refine ⟨l1, ?_, l2, ?_, h⟩
    · rw [e1, e2]; unfold sizeLine; simp; omega
    · rw [e3]; unfold sizeLine; omega
theorem strsD_S : ∀ ls : List (List Nat), strsD (ls.map strL) = some (ls.map S)
  | [] => rfl
  | l :: ls => by
    show (strsD (ls.map strL)).map (S l :: ·) = _
    rw [strsD_S ls]
    rfl
theorem sum_le {xs : List Nat} {n : Nat} (h : ∀ x ∈ xs, x ≤ n) : xs.sum ≤ n * xs.length := by
  induction xs with
  | nil => simp
  | cons a xs ih =>
    have h1 := h a List.mem_cons_self
    have h2 := ih fun x hx => h x (List.mem_cons_of_mem _ hx)
    rw [List.sum_cons, List.length_cons, Nat.mul_add]
    omega
theorem bdL_le {b : Bw} (hs : WkT b) : (bdL b).length ≤ 4000 := by
  have l1 := qtxL_le hs.p
  have l2 := qtxL_le hs.u
  have l3 := intL_le hs.m
  unfold bdL
  simp; omega
theorem wd_sum {bs : List Bw} (hl : bs.length ≤ 12) (hs : ∀ b ∈ bs, WkT b) : ((bs.map bdL).map (fun x => (S x).length)).sum ≤ 48000 := by
  have := sum_le (xs := (bs.map bdL).map (fun x => (S x).length)) (n := 4000) (fun x hx => by
    obtain ⟨y, hy, rfl⟩ := List.mem_map.mp hx
    obtain ⟨b, hb, rfl⟩ := List.mem_map.mp hy
    rw [SX.S_len]
    exact bdL_le (hs b hb))
  simp only [List.length_map] at this
  omega
theorem wd_join (bs : List Bw) : PySem.Txt.join (S [10]) ((bs.map bdL).map S) = S (wdL bs) := SX.join_S [10] (bs.map bdL)
end VS
set_option Elab.async false
set_option linter.all false
set_option maxRecDepth 100000
set_option maxHeartbeats 4000000
/-! VM139: the law k05, its own defs but law. Own work. -/
namespace VS
open PySem PySem.Spec PyProof.Rows
open L2 (V Hp Cx WX)
open SX (S)
def F__law_shown : FS := F_shown
theorem m__law_shown : MonoF F__law_shown := m_shown
def F__law_text : FS := fun ss K _ => ∃ (st : Bool) (bs : List Bw), ss = [.v (.lst st (bs.map wD))] ∧ (bs.length ≤ 12 ∧ ∀ b ∈ bs, WkT b) ∧ K (.v (strL (wdL bs))) []
theorem m__law_text : MonoF F__law_text := fun ss K K' E E' hk he ⟨st, b, h1, h2, h3⟩ => ⟨st, b, h1, h2, hk _ _ h3⟩
def sf__law_shown : SS := (seqS (ifS (bT (bin true (bin true (vE 0) (cE (.int 1)) ixR) (cE (.int 1)) (eqR false))) (retS (callV strC (consA true (bin true (vE 0) (cE (.int 0)) ixR) nilA))) nxS)
  (retS (bin true (bin true (callV strC (consA true (bin true (vE 0) (cE (.int 0)) ixR) nilA)) (cE (.str "/")) addR) (callV strC (consA true (bin true (vE 0) (cE (.int 1)) ixR) nilA)) addR)))
def sf__law_text : SS := (seqS (setS 1 true (compE [2, 3, 4] (itS (vE 0)) (gT 3 (gCons (gN 2 true) (gCons (gN 3 true) (gCons (gN 4 true) gNil)))) yesT (bin true (bin true (bin true (bin true (callP F__law_shown [] (consA true (vE 2) nilA)) (cE (.str " ")) addR) (callP F__law_shown [] (consA true (vE 3) nilA)) addR) (cE (.str " ")) addR) (callV strC (consA true (vE 4) nilA)) addR)))
  (retS (strE (cE (.str "\n")) (vE 1) joiS)))
theorem to__law_shown : ∀ ss K E, F__law_shown ss K E → defF [false] 1 sf__law_shown ss K E := to_shown
theorem to__law_text : ∀ ss K E, F__law_text ss K E → defF [false] 5 sf__law_text ss K E := fun ss K E h => by
  obtain ⟨st, bs, rfl, ⟨hl, hs⟩, h⟩ := h
  simp [sf__law_text, cE, vE, bE, rE, fE, mE, bin, nilA, consA, bT, andT, orT, notT, tupE, lstE, allV, allM, okB, intR, addR, asL, asT, asD, eqR, eqD_nn, eqD_bb, eqD_ii, eqD_ss, eqD_tt, eqD_ll, eqD_bi, eqD_ib, eqD_nt, eqD_tn, eqD_it, eqD_ti, eqD_ni, eqD_in, eqDs_nn, eqDs_cc, eqDs_nc, eqDs_cn, cmpD, cmpDs, depD, depDs, isNon, isNR, chainE, tvE, andV, orV, notV, ifE, slEV, ixR, callV, lenC, isiC, tyN, pick, retEV, callP, argD, argDs, seqS, bkS, ctS, exprS, retS, retNS, ifS, evSl, setS, SK.loop, gN, gNil, gCons, gT, asgS, parS, defF, defK, raiseS, absC, divmodC, mmC, stL, itL, itT, itR1, itR2, itE, shL, itZ, itV, forS, evD, methL, appL, clrL, popL, insL, trL, extL, setixS, argS, argSs, callI, callN, hereA, nextA, negE, itS, wipeR, compE, compD, yesT, seqD, listC, tupC, numd, zipd, nxS, frSl, retSl, retSls, retOk, retOks, tryAsS, tryOnlyS, lookB, kinE, xfE, lookF, frzE, isTR, isTB, allC, blsD, gU, raiseIS, at0, at1, at2, at3, lrE, sortC, intC, intsD, slE, intO, eqXR, slX, addT, repT, inR, cmpO, heldR, appT, lrE, sortC, intC, intsD, slE, intO, eqXR, slX, addT, repT, compX, compDx, neYR, lrevE, strC, intTC, strE, splS, joiS, slZ, itC, inSR, strsD, compZ, compDz, s_line]
  refine ⟨by omega, comp_mapT wD (fun b => strL (bdL b)) bs [] _ (fun b hb acc ds K k => ?_) ?_⟩
  · simp [cE, vE, bE, rE, fE, mE, bin, nilA, consA, bT, andT, orT, notT, tupE, lstE, allV, allM, okB, intR, addR, asL, asT, asD, eqR, eqD_nn, eqD_bb, eqD_ii, eqD_ss, eqD_tt, eqD_ll, eqD_bi, eqD_ib, eqD_nt, eqD_tn, eqD_it, eqD_ti, eqD_ni, eqD_in, eqDs_nn, eqDs_cc, eqDs_nc, eqDs_cn, cmpD, cmpDs, depD, depDs, isNon, isNR, chainE, tvE, andV, orV, notV, ifE, slEV, ixR, callV, lenC, isiC, tyN, pick, retEV, callP, argD, argDs, seqS, bkS, ctS, exprS, retS, retNS, ifS, evSl, setS, SK.loop, gN, gNil, gCons, gT, asgS, parS, defF, defK, raiseS, absC, divmodC, mmC, stL, itL, itT, itR1, itR2, itE, shL, itZ, itV, forS, evD, methL, appL, clrL, popL, insL, trL, extL, setixS, argS, argSs, callI, callN, hereA, nextA, negE, itS, wipeR, compE, compD, yesT, seqD, listC, tupC, numd, zipd, nxS, frSl, retSl, retSls, retOk, retOks, tryAsS, tryOnlyS, lookB, kinE, xfE, lookF, frzE, isTR, isTB, allC, blsD, gU, raiseIS, at0, at1, at2, at3, lrE, sortC, intC, intsD, slE, intO, cutD, eqXR, slX, addT, repT, inR, cmpO, heldR, appT, lrE, sortC, intC, intsD, slE, intO, cutD, eqXR, slX, addT, repT, compX, compDx, neYR, lrevE, strC, intTC, strE, splS, joiS, slZ, itC, inSR, strsD, compZ, compDz, wD, F__law_shown, F_shown, s_blank, nS_S]
    have hs := hs b hb
    have l1 := qtxL_le hs.p
    have l2 := qtxL_le hs.u
    have l3 := intL_le hs.m
    have sz : (65536 : Nat) ≤ sizeLine := by decide
    simp only [SX.S_cat]
    simp only [SX.S_len, List.length_append, List.length_singleton]
    refine ⟨b.p, ⟨rfl, rfl⟩, hs.p, by omega, b.u, ⟨rfl, rfl⟩, hs.u, by omega, by omega, log_of hs.m, by omega, ?_⟩
    have e2 : qtxL b.p ++ [32] ++ qtxL b.u ++ [32] ++ intL b.m = bdL b := by unfold bdL; simp
    rw [e2]
    exact k
  · have e : bs.map (fun b => strL (bdL b)) = (bs.map bdL).map strL := by rw [List.map_map]; rfl
    rw [List.nil_append, e]
    simp [cE, vE, bE, rE, fE, mE, bin, nilA, consA, bT, andT, orT, notT, tupE, lstE, allV, allM, okB, intR, addR, asL, asT, asD, eqR, eqD_nn, eqD_bb, eqD_ii, eqD_ss, eqD_tt, eqD_ll, eqD_bi, eqD_ib, eqD_nt, eqD_tn, eqD_it, eqD_ti, eqD_ni, eqD_in, eqDs_nn, eqDs_cc, eqDs_nc, eqDs_cn, cmpD, cmpDs, depD, depDs, isNon, isNR, chainE, tvE, andV, orV, notV, ifE, slEV, ixR, callV, lenC, isiC, tyN, pick, retEV, callP, argD, argDs, seqS, bkS, ctS, exprS, retS, retNS, ifS, evSl, setS, SK.loop, gN, gNil, gCons, gT, asgS, parS, defF, defK, raiseS, absC, divmodC, mmC, stL, itL, itT, itR1, itR2, itE, shL, itZ, itV, forS, evD, methL, appL, clrL, popL, insL, trL, extL, setixS, argS, argSs, callI, callN, hereA, nextA, negE, itS, wipeR, compE, compD, yesT, seqD, listC, tupC, numd, zipd, nxS, frSl, retSl, retSls, retOk, retOks, tryAsS, tryOnlyS, lookB, kinE, xfE, lookF, frzE, isTR, isTB, allC, blsD, gU, raiseIS, at0, at1, at2, at3, lrE, sortC, intC, intsD, slE, intO, cutD, eqXR, slX, addT, repT, inR, cmpO, heldR, appT, lrE, sortC, intC, intsD, slE, intO, cutD, eqXR, slX, addT, repT, compX, compDx, neYR, lrevE, strC, intTC, strE, splS, joiS, slZ, itC, inSR, strsD, compZ, compDz]
    have e2 : bs.map (strL ∘ bdL) = (bs.map bdL).map strL := by rw [List.map_map]
    rw [e2, strsD_S]
    dsimp only
    rw [wd_join]
    refine ⟨?_, h⟩
    have := wd_sum hl hs
    have e2 : ((bs.map bdL).map S).map (fun x => x.length) = (bs.map bdL).map (fun x => (S x).length) := by rw [List.map_map]; rfl
    rw [e2, SX.S_len]
    simp only [List.length_map, List.length_singleton]
    omega
theorem cut_a5 (a c : List D) (b : D) : cutD (a ++ b :: c) none (some (a.length : Int)) = a := by
  unfold cutD
  have e1 : HT.sIx (a ++ b :: c).length 0 none = 0 := rfl
  have e2 : HT.sIx (a ++ b :: c).length (a ++ b :: c).length (some (a.length : Int)) = a.length := by
    rw [HT.sIx_nat]; simp
  rw [e1, e2]
  simp
theorem cut_c5 (a c : List D) (b : D) : cutD (a ++ b :: c) (some ((a.length : Int) + 1)) none = c := by
  unfold cutD
  have e1 : HT.sIx (a ++ b :: c).length 0 (some ((a.length : Int) + 1)) = a.length + 1 := by
    rw [show (a.length : Int) + 1 = ((a.length + 1 : Nat) : Int) by omega, HT.sIx_nat]; simp
  have e2 : HT.sIx (a ++ b :: c).length (a ++ b :: c).length none = (a ++ b :: c).length := rfl
  rw [e1, e2]
  have : (a ++ b :: c).drop (a.length + 1) = c := by
    rw [List.drop_append]
    simp
  rw [this]
  exact List.take_of_length_le (by simp; omega)
theorem cut_f5 (x : D) (b : List D) : cutD (x :: b) (some 1) none = b := by
  have := cut_c5 [] b x
  simpa using this
theorem wok_wk {b : Bw} (h : WOk b) : WkT b := ⟨(p_sm h.p).mono (by decide), by
    obtain ⟨k, e, a, c⟩ := h.u
    exact (p_sm ⟨k, e, by omega, by omega⟩).mono (by decide), by have := h.m1; have := h.m2; exact Nat.lt_of_le_of_lt (by omega : b.m.natAbs ≤ 1000) (by decide +kernel)⟩
end VS
set_option Elab.async false
set_option linter.all false
set_option maxRecDepth 100000
set_option maxHeartbeats 4000000
/-! VM140: the law k06's own reader. Own work. -/
namespace VS
open PySem PySem.Spec PyProof.Rows
open L2 (V Hp Cx WX)
open SX (S)
def F__law_figures : FS := F_whole_in
theorem m__law_figures : MonoF F__law_figures := m_whole_in
def F__law_fraction : FS := F_fraction_in
theorem m__law_fraction : MonoF F__law_fraction := m_fraction_in
def F__law_read : FS := fun ss K E => ∃ l, ss = [.v (strL l)] ∧ l.length ≤ 100000 ∧ match readL l with
  | .ok bs => K (.m (.l (bs.map wD))) []
  | .error n => K (.v (.int (n : Nat))) []
theorem m__law_read : MonoF F__law_read := fun ss K K' E E' hk he ⟨l, h1, h2, h⟩ => ⟨l, h1, h2, by
  split at h
  · exact hk _ _ h
  · exact hk _ _ h⟩
def sf__law_figures_r1 : SS := (seqS (ifS (bT (bin true (compE [1] (itC (vE 0)) (gN 1 true) (bT (bin true (vE 1) (cE (.str "0123456789")) (inSR true))) (vE 1)) (lstE nilA) (eqR true))) (retS (cE .non)) nxS)
  (retS (callV intTC (consA true (vE 0) nilA))))
def sf__law_figures : SS := (seqS (ifS (orT (notT (bT (chainE true true (fun i j => decide (i ≤ j)) (fun i j => decide (i ≤ j)) (cE (.int 1)) (callV lenC (consA true (vE 0) nilA)) (cE (.int 100))))) (andT (bT (bin true (callV lenC (consA true (vE 0) nilA)) (cE (.int 1)) gtR)) (bT (bin true (bin true (vE 0) (cE (.int 0)) ixR) (cE (.str "0")) (eqR false))))) (retS (cE .non)) nxS)
  sf__law_figures_r1)
def sf__law_fraction_r1 : SS := (retS (vE 3))
def sf__law_fraction_r2 : SS := (seqS (ifS (orT (bT (bin true (bin true (vE 3) (cE (.int 1)) ixR) (cE (.int 0)) (eqR false))) (orT (andT (bT (bin true (callV lenC (consA true (vE 2) nilA)) (cE (.int 2)) (eqR false))) (bT (bin true (bin true (vE 3) (cE (.int 1)) ixR) (cE (.int 1)) (eqR false)))) (bT (bin true (callP F__law_fit [] (consA true (bin true (vE 3) (cE (.int 0)) ixR) (consA true (bin true (vE 3) (cE (.int 1)) ixR) nilA))) (vE 3) (eqR true))))) (retS (cE .non)) nxS)
  sf__law_fraction_r1)
def sf__law_fraction_r3 : SS := (seqS (setS 3 true (tupE (consA true (bin true (bin true (vE 2) (cE (.int 0)) ixR) (bin true (lstE (consA true (cE (.int 1)) (consA true (negE (cE (.int 1))) nilA))) (callV intC (consA true (vE 1) nilA)) ixR) (intR MulOk fun i j => .int (i * j))) (consA true (bin true (bin true (vE 2) (lstE (consA true (cE (.int 1)) nilA)) addR) (cE (.int 1)) ixR) nilA))))
  sf__law_fraction_r2)
def sf__law_fraction_r4 : SS := (seqS (ifS (orT (bT (bin true (cE .non) (vE 2) (inR false))) (orT (bT (bin true (callV lenC (consA true (vE 2) nilA)) (cE (.int 2)) gtR)) (andT (bT (vE 1)) (bT (bin true (bin true (vE 2) (cE (.int 0)) ixR) (cE (.int 0)) (eqR false)))))) (retS (cE .non)) nxS)
  sf__law_fraction_r3)
def sf__law_fraction : SS := (seqS (setS 1 true (bin true (slZ (vE 0) none (some (cE (.int 1)))) (cE (.str "-")) (eqR false)))
  (seqS (setS 2 true (compE [4] (itS (strE (slZ (vE 0) (some (callV intC (consA true (vE 1) nilA))) none) (cE (.str "/")) splS)) (gN 4 true) yesT (callP F__law_figures [] (consA true (vE 4) nilA))))
  sf__law_fraction_r4))
def sf__law_read_r1 : SS := (seqS (ifS (andT (bT (bin true (rE 1) (lstE nilA) (eqR true))) (notT (bT (callP F__law_less [] (consA true (bin true (bin true (rE 1) (negE (cE (.int 1))) ixR) (cE (.int 0)) ixR) (consA true (bin true (vE 5) (cE (.int 0)) ixR) nilA)))))) (retS (vE 2)) nxS)
  (exprS (methL 1 appL (consA true (vE 5) nilA))))
def sf__law_read_r2 : SS := (seqS (ifS (orT (bT (bin true (cE .non) (vE 5) (inTR false))) (notT (bT (chainE true true (fun i j => decide (i ≤ j)) (fun i j => decide (i ≤ j)) (cE (.int 1)) (bin true (vE 5) (cE (.int 2)) ixR) (cE (.int 1000)))))) (retS (vE 2)) nxS)
  sf__law_read_r1)
def sf__law_read_r3 : SS := (seqS (setS 5 true (tupE (consA true (callP F__law_fraction [] (consA true (bin true (vE 4) (cE (.int 0)) ixR) nilA)) (consA true (callP F__law_fraction [] (consA true (bin true (vE 4) (cE (.int 1)) ixR) nilA)) (consA true (callP F__law_figures [] (consA true (bin true (vE 4) (cE (.int 2)) ixR) nilA)) nilA)))))
  sf__law_read_r2)
def sf__law_read_r4 : SS := (seqS (ifS (orT (bT (bin true (callV lenC (consA true (vE 4) nilA)) (cE (.int 3)) (eqR true))) (bT (bin true (vE 2) (cE (.int 12)) (eqR false)))) (retS (vE 2)) nxS)
  sf__law_read_r3)
def sf__law_read_r5 : SS := (retS (mE 1))
def sf__law_read : SS := (seqS (setS 1 false (lstE nilA))
  (seqS (forS (itE (consA true (strE (vE 0) (cE (.str "\n")) splS) nilA)) (gT 2 (gCons (gN 2 true) (gCons (gN 3 true) gNil))) (seqS (setS 4 true (strE (vE 3) (cE (.str " ")) splS))
  sf__law_read_r4))
  sf__law_read_r5))
theorem comp_filT {α : Type} {own : List Nat} {g : GS} {t : BS} {f : ES} {ρ : Rho} (u v : α → D) (q : α → Bool) : ∀ (xs : List α) (acc : List D) (K : List D → Prop),
    (∀ a ∈ xs, ∀ (acc ds : List D) (K : List D → Prop), compD own g t f ρ ds (if q a = true then acc ++ [v a] else acc) K → compD own g t f ρ (u a :: ds) acc K) → K (acc ++ (xs.filter q).map v) → compD own g t f ρ (xs.map u) acc K
  | [], acc, K, _, k => by simpa [compD] using k
  | a :: xs, acc, K, step, k => by
    refine step a List.mem_cons_self acc _ K (comp_filT u v q xs _ K (fun b hb => step b (List.mem_cons_of_mem _ hb)) ?_)
    by_cases z : q a = true
    · rw [List.filter_cons_of_pos z] at k
      rw [if_pos z]
      simpa using k
    · rw [List.filter_cons_of_neg z] at k
      rw [if_neg z]
      exact k
theorem fig_fil (l : List Nat) : l.filter (fun c => !digB c) = [] ↔ l.all digB = true := by
  rw [List.filter_eq_nil_iff, List.all_eq_true]
  simp
theorem cmp_strs : ∀ ls : List (List Nat), cmpDs (ls.map strL) = true
  | [] => rfl
  | l :: ls => by
    rw [List.map_cons]
    show (cmpD (strL l) && cmpDs _) = true
    rw [cmp_strs ls]
    rfl
theorem fg_r1 {l : List Nat} {k : SK} (hl : l.length ≤ 100) (h1 : 1 ≤ l.length) (hn : l.all digB = true → k.rt (.v (.int (NumText.digitsVal l : Nat))) [.v (strL l), .no]) (hr : l.all digB = false → k.rt (.v .non) [.v (strL l), .no]) :
    sf__law_figures_r1 [.v (strL l), .no] k := by
  have el : (S l).length = l.length := SX.S_len l
  simp [sf__law_figures_r1, cE, vE, bE, rE, fE, mE, bin, nilA, consA, bT, andT, orT, notT, tupE, lstE, allV, allM, okB, intR, addR, asL, asT, asD, eqR, eqD_nn, eqD_bb, eqD_ii, eqD_ss, eqD_tt, eqD_ll, eqD_bi, eqD_ib, eqD_nt, eqD_tn, eqD_it, eqD_ti, eqD_ni, eqD_in, eqDs_nn, eqDs_cc, eqDs_nc, eqDs_cn, cmpD, cmpDs, depD, depDs, isNon, isNR, chainE, tvE, andV, orV, notV, ifE, slEV, ixR, callV, lenC, isiC, tyN, pick, retEV, callP, argD, argDs, seqS, bkS, ctS, exprS, retS, retNS, ifS, evSl, setS, SK.loop, gN, gNil, gCons, gT, asgS, parS, defF, defK, raiseS, absC, divmodC, mmC, stL, itL, itT, itR1, itR2, itE, shL, itZ, itV, forS, evD, methL, appL, clrL, popL, insL, trL, extL, setixS, argS, argSs, callI, callN, hereA, nextA, negE, itS, wipeR, compE, compD, yesT, seqD, listC, tupC, numd, zipd, nxS, frSl, retSl, retSls, retOk, retOks, tryAsS, tryOnlyS, lookB, kinE, xfE, lookF, frzE, isTR, isTB, allC, blsD, gU, raiseIS, at0, at1, at2, at3, lrE, sortC, intC, intsD, slE, intO, eqXR, slX, addT, repT, inR, cmpO, heldR, appT, lrE, sortC, intC, intsD, slE, intO, eqXR, slX, addT, repT, compX, compDx, neYR, lrevE, inTR, strC, intTC, strE, splS, joiS, slZ, itC, inSR, strsD, repS, compZ, compDz, s_fig]
  rw [sgD_S]
  refine ⟨by simp; omega, comp_filT (fun c => .str (S [c])) (fun c => .str (S [c])) (fun c => !digB c) l [] _ (fun c hc acc ds K ih => ?_) ?_⟩
  · have e := fig_mem c
    by_cases d : digB c = true
    · have m := e.mpr d
      simp at m
      simp [d] at ih
      simp [cE, vE, bE, rE, fE, mE, bin, nilA, consA, bT, andT, orT, notT, tupE, lstE, allV, allM, okB, intR, addR, asL, asT, asD, eqR, eqD_nn, eqD_bb, eqD_ii, eqD_ss, eqD_tt, eqD_ll, eqD_bi, eqD_ib, eqD_nt, eqD_tn, eqD_it, eqD_ti, eqD_ni, eqD_in, eqDs_nn, eqDs_cc, eqDs_nc, eqDs_cn, cmpD, cmpDs, depD, depDs, isNon, isNR, chainE, tvE, andV, orV, notV, ifE, slEV, ixR, callV, lenC, isiC, tyN, pick, retEV, callP, argD, argDs, seqS, bkS, ctS, exprS, retS, retNS, ifS, evSl, setS, SK.loop, gN, gNil, gCons, gT, asgS, parS, defF, defK, raiseS, absC, divmodC, mmC, stL, itL, itT, itR1, itR2, itE, shL, itZ, itV, forS, evD, methL, appL, clrL, popL, insL, trL, extL, setixS, argS, argSs, callI, callN, hereA, nextA, negE, itS, wipeR, compE, compD, yesT, seqD, listC, tupC, numd, zipd, nxS, frSl, retSl, retSls, retOk, retOks, tryAsS, tryOnlyS, lookB, kinE, xfE, lookF, frzE, isTR, isTB, allC, blsD, gU, raiseIS, at0, at1, at2, at3, lrE, sortC, intC, intsD, slE, intO, cutD, eqXR, slX, addT, repT, inR, cmpO, heldR, appT, lrE, sortC, intC, intsD, slE, intO, cutD, eqXR, slX, addT, repT, compX, compDx, neYR, lrevE, inTR, strC, intTC, strE, splS, joiS, slZ, itC, inSR, strsD, repS, compZ, compDz]
      rw [if_neg (by omega)]
      exact ih
    · have m : ¬ c ∈ [48, 49, 50, 51, 52, 53, 54, 55, 56, 57] := fun h => d (e.mp h)
      simp at m
      simp [d] at ih
      simp [cE, vE, bE, rE, fE, mE, bin, nilA, consA, bT, andT, orT, notT, tupE, lstE, allV, allM, okB, intR, addR, asL, asT, asD, eqR, eqD_nn, eqD_bb, eqD_ii, eqD_ss, eqD_tt, eqD_ll, eqD_bi, eqD_ib, eqD_nt, eqD_tn, eqD_it, eqD_ti, eqD_ni, eqD_in, eqDs_nn, eqDs_cc, eqDs_nc, eqDs_cn, cmpD, cmpDs, depD, depDs, isNon, isNR, chainE, tvE, andV, orV, notV, ifE, slEV, ixR, callV, lenC, isiC, tyN, pick, retEV, callP, argD, argDs, seqS, bkS, ctS, exprS, retS, retNS, ifS, evSl, setS, SK.loop, gN, gNil, gCons, gT, asgS, parS, defF, defK, raiseS, absC, divmodC, mmC, stL, itL, itT, itR1, itR2, itE, shL, itZ, itV, forS, evD, methL, appL, clrL, popL, insL, trL, extL, setixS, argS, argSs, callI, callN, hereA, nextA, negE, itS, wipeR, compE, compD, yesT, seqD, listC, tupC, numd, zipd, nxS, frSl, retSl, retSls, retOk, retOks, tryAsS, tryOnlyS, lookB, kinE, xfE, lookF, frzE, isTR, isTB, allC, blsD, gU, raiseIS, at0, at1, at2, at3, lrE, sortC, intC, intsD, slE, intO, cutD, eqXR, slX, addT, repT, inR, cmpO, heldR, appT, lrE, sortC, intC, intsD, slE, intO, cutD, eqXR, slX, addT, repT, compX, compDx, neYR, lrevE, inTR, strC, intTC, strE, splS, joiS, slZ, itC, inSR, strsD, repS, compZ, compDz]
      rw [if_pos (by omega)]
      exact ih
  · rw [List.nil_append]
    have ec : cmpDs ((l.filter fun c => !digB c).map fun c => D.str (S [c])) = true := by
      have := cmp_strs ((l.filter fun c => !digB c).map fun c => [c])
      rw [List.map_map] at this
      exact this
    refine ⟨ec, ?_⟩
    by_cases d : l.all digB = true
    · rw [(fig_fil l).mpr d]
      rw [if_pos (by simp [eqDs])]
      rw [SX.int_S (a := l) d (by intro z; subst z; simp at h1) (by omega)]
      exact ⟨by omega, hn d⟩
    · have nf : (l.filter fun c => !digB c) ≠ [] := fun z => d ((fig_fil l).mp z)
      rw [if_neg]
      · exact hr (Bool.eq_false_iff.mpr d)
      · cases e : l.filter fun c => !digB c with
        | nil => exact absurd e nf
        | cons a r => simp [eqDs]
theorem to__law_figures : ∀ ss K E, F__law_figures ss K E → defF [false] 2 sf__law_figures ss K E := fun ss K E h => by
  obtain ⟨l, rfl, hl0, h⟩ := h
  have hl : l.length ≤ sizeLine := by unfold sizeLine; omega
  have e : (S l).length = l.length := SX.S_len l
  unfold wholeL at h
  simp [sf__law_figures, cE, vE, bE, rE, fE, mE, bin, nilA, consA, bT, andT, orT, notT, tupE, lstE, allV, allM, okB, intR, addR, asL, asT, asD, eqR, eqD_nn, eqD_bb, eqD_ii, eqD_ss, eqD_tt, eqD_ll, eqD_bi, eqD_ib, eqD_nt, eqD_tn, eqD_it, eqD_ti, eqD_ni, eqD_in, eqDs_nn, eqDs_cc, eqDs_nc, eqDs_cn, cmpD, cmpDs, depD, depDs, isNon, isNR, chainE, tvE, andV, orV, notV, ifE, slEV, ixR, callV, lenC, isiC, tyN, pick, retEV, callP, argD, argDs, seqS, bkS, ctS, exprS, retS, retNS, ifS, evSl, setS, SK.loop, gN, gNil, gCons, gT, asgS, parS, defF, defK, raiseS, absC, divmodC, mmC, stL, itL, itT, itR1, itR2, itE, shL, itZ, itV, forS, evD, methL, appL, clrL, popL, insL, trL, extL, setixS, argS, argSs, callI, callN, hereA, nextA, negE, itS, wipeR, compE, yesT, seqD, listC, tupC, numd, zipd, nxS, frSl, retSl, retSls, retOk, retOks, tryAsS, tryOnlyS, lookB, kinE, xfE, lookF, frzE, isTR, isTB, allC, blsD, gU, raiseIS, at0, at1, at2, at3, lrE, sortC, intC, intsD, slE, intO, eqXR, slX, addT, repT, inR, cmpO, heldR, appT, lrE, sortC, intC, intsD, slE, intO, eqXR, slX, addT, repT, compX, compDx, neYR, lrevE, inTR, strC, intTC, strE, splS, joiS, slZ, itC, inSR, strsD, repS, compZ, compDz, s_zero]
  rw [e]
  refine ⟨hl, ?_⟩
  have fin : ((1 ≤ l.length ∧ l.length ≤ 100) ∧ ¬ (1 < l.length ∧ l.head? = some 48)) → ∀ k : SK, (∀ d, k.rt (.v d) [.v (strL l), .no] = (retOk d = true ∧ K (.v d) [])) → sf__law_figures_r1 [.v (strL l), .no] k := fun c k h1 => by
    refine fg_r1 c.1.2 c.1.1 (fun d => ?_) (fun d => ?_)
    · rw [h1]
      rw [if_pos ⟨c.1, c.2, d⟩] at h
      exact ⟨rfl, h⟩
    · rw [h1]
      rw [if_neg (by rw [d]; simp)] at h
      exact ⟨rfl, h⟩
  by_cases c1 : 1 ≤ l.length
  · rw [if_pos (by omega)]
    by_cases c2 : 100 < l.length
    · rw [if_pos (by omega)]
      rw [if_neg (by omega)] at h
      exact h
    · rw [if_neg (by omega)]
      refine ⟨hl, ?_⟩
      by_cases c3 : 1 < l.length
      · rw [if_pos (by omega)]
        obtain ⟨ch, e1, e2⟩ := atI_head c1
        refine ⟨hl, ?_⟩
        rw [e1]
        dsimp only
        by_cases c4 : ch = 48
        · rw [if_pos c4]
          rw [if_neg (by rw [e2, c4]; simp [c3])] at h
          exact h
        · rw [if_neg c4]
          refine fin ⟨⟨c1, by omega⟩, by rw [e2]; simp [c4]⟩ _ (fun d => ?_)
          simp [pick, retSls, retSl]
      · rw [if_neg (by omega)]
        refine fin ⟨⟨c1, by omega⟩, fun z => c3 z.1⟩ _ (fun d => ?_)
        simp [pick, retSls, retSl]
  · rw [if_neg (by omega)]
    rw [if_neg (by omega)] at h
    exact h
theorem fc_r2 {neg : Bool} {a : Int} {b : Nat} {two : Bool} {z : D} {ns : List D} {x : Sl} {k : SK} (hb : Si 4000 (b : Nat)) (hn : (ns.length : Int) = if two then 2 else 1) (h1 : two = false → b = 1)
    (h : if b = 0 ∨ (two = true ∧ b = 1) ∨ ¬ Int.gcd a (b : Nat) = 1 then k.rt (.v .non) [.v z, .v (.bl neg), .v (.lst true ns), .v (.tup [.int a, .int (b : Nat)]), x] else k.rt (.v (.tup [.int a, .int (b : Nat)])) [.v z, .v (.bl neg), .v (.lst true ns), .v (.tup [.int a, .int (b : Nat)]), x]) :
    sf__law_fraction_r2 [.v z, .v (.bl neg), .v (.lst true ns), .v (.tup [.int a, .int (b : Nat)]), x] k := by
  have h2 : two = true → (ns.length : Int) = 2 := fun e => by rw [e] at hn; exact hn
  have h3 : two = false → ¬ (ns.length : Int) = 2 := fun e => by rw [e] at hn; simp at hn; omega
  simp [sf__law_fraction_r2, sf__law_fraction_r1, cE, vE, bE, rE, fE, mE, bin, nilA, consA, bT, andT, orT, notT, tupE, lstE, allV, allM, okB, intR, addR, asL, asT, asD, eqR, eqD_nn, eqD_bb, eqD_ii, eqD_ss, eqD_tt, eqD_ll, eqD_bi, eqD_ib, eqD_nt, eqD_tn, eqD_it, eqD_ti, eqD_ni, eqD_in, eqDs_nn, eqDs_cc, eqDs_nc, eqDs_cn, cmpD, cmpDs, depD, depDs, isNon, isNR, chainE, tvE, andV, orV, notV, ifE, slEV, ixR, callV, lenC, isiC, tyN, pick, retEV, callP, argD, argDs, seqS, bkS, ctS, exprS, retS, retNS, ifS, evSl, setS, SK.loop, gN, gNil, gCons, gT, asgS, parS, defF, defK, raiseS, absC, divmodC, mmC, stL, itL, itT, itR1, itR2, itE, shL, itZ, itV, forS, evD, methL, appL, clrL, popL, insL, trL, extL, setixS, argS, argSs, callI, callN, hereA, nextA, negE, itS, wipeR, compE, compD, yesT, seqD, listC, tupC, numd, zipd, nxS, frSl, retSl, retSls, retOk, retOks, tryAsS, tryOnlyS, lookB, kinE, xfE, lookF, frzE, isTR, isTB, allC, blsD, gU, raiseIS, at0, at1, at2, at3, lrE, sortC, intC, intsD, slE, intO, cutD, eqXR, slX, addT, repT, inR, cmpO, heldR, appT, lrE, sortC, intC, intsD, slE, intO, cutD, eqXR, slX, addT, repT, compX, compDx, neYR, lrevE, inTR, strC, intTC, strE, splS, joiS, slZ, itC, inSR, strsD, repS, compZ, compDz, F__law_fit]
  by_cases b0 : b = 0
  · rw [if_pos b0]
    rw [if_pos (.inl b0)] at h
    exact h
  · rw [if_neg b0]
    have fe := fit_eq (a := a) (b := (b : Nat)) (by omega)
    have tail : (two = true ∧ b = 1 → False) → (¬b = 0 ∧ Si 8100 (b : Nat)) ∧
        if ¬((a : Rat) / ((b : Int) : Rat)).num = a ∨ ¬(((a : Rat) / ((b : Int) : Rat)).den : Int) = (b : Int) then
          k.rt (.v .non) [.v z, .v (.bl neg), .v (.lst true ns), .v (.tup [.int a, .int (b : Nat)]), x]
        else
          k.rt (.v (.tup [.int a, .int (b : Nat)])) [.v z, .v (.bl neg), .v (.lst true ns), .v (.tup [.int a, .int (b : Nat)]), x] := fun nt => by
      refine ⟨⟨b0, hb.mono (by decide)⟩, ?_⟩
      by_cases g : Int.gcd a (b : Nat) = 1
      · rw [if_neg (by rintro (q | q | q); exact b0 q; exact nt q; exact q g)] at h
        have e := fe.mpr g
        rw [if_neg (by rintro (q | q); exact q e.1; exact q e.2)]
        exact h
      · rw [if_pos (.inr (.inr g))] at h
        rw [if_pos]
        · exact h
        · by_cases q : ((a : Rat) / ((b : Int) : Rat)).num = a
          · exact .inr fun q2 => g (fe.mp ⟨q, q2⟩)
          · exact .inl q
    cases two with
    | true =>
      rw [if_pos (h2 rfl)]
      by_cases b1 : b = 1
      · rw [if_pos (by omega)]
        rw [if_pos (.inr (.inl ⟨rfl, b1⟩))] at h
        exact h
      · rw [if_neg (by omega)]
        exact tail fun q => b1 q.2
    | false =>
      rw [if_neg (h3 rfl)]
      exact tail fun q => nomatch q.1
theorem to__law_fraction : ∀ ss K E, F__law_fraction ss K E → defF [false] 5 sf__law_fraction ss K E := fun ss K E h => by
  obtain ⟨l, rfl, hl0, h⟩ := h
  have hl : l.length ≤ sizeLine := by unfold sizeLine; omega
  simp [sf__law_fraction, cE, vE, bE, rE, fE, mE, bin, nilA, consA, bT, andT, orT, notT, tupE, lstE, allV, allM, okB, intR, addR, asL, asT, asD, eqR, eqD_nn, eqD_bb, eqD_ii, eqD_ss, eqD_tt, eqD_ll, eqD_bi, eqD_ib, eqD_nt, eqD_tn, eqD_it, eqD_ti, eqD_ni, eqD_in, eqDs_nn, eqDs_cc, eqDs_nc, eqDs_cn, cmpD, cmpDs, depD, depDs, isNon, isNR, chainE, tvE, andV, orV, notV, ifE, slEV, ixR, callV, lenC, isiC, tyN, pick, retEV, callP, argD, argDs, seqS, bkS, ctS, exprS, retS, retNS, ifS, evSl, setS, SK.loop, gN, gNil, gCons, gT, asgS, parS, defF, defK, raiseS, absC, divmodC, mmC, stL, itL, itT, itR1, itR2, itE, shL, itZ, itV, forS, evD, methL, appL, clrL, popL, insL, trL, extL, setixS, argS, argSs, callI, callN, hereA, nextA, negE, itS, wipeR, yesT, seqD, listC, tupC, numd, zipd, nxS, frSl, retSl, retSls, retOk, retOks, tryAsS, tryOnlyS, lookB, kinE, xfE, lookF, frzE, isTR, isTB, allC, blsD, gU, raiseIS, at0, at1, at2, at3, lrE, sortC, intC, intsD, slE, intO, cutD, eqXR, slX, addT, repT, inR, cmpO, heldR, appT, lrE, sortC, intC, intsD, slE, intO, cutD, eqXR, slX, addT, repT, compX, compDx, neYR, lrevE, inTR, strC, intTC, strE, splS, joiS, slZ, itC, inSR, strsD, repS, compZ, compDz, compE, s_dash, s_over, cutT_to, take_dash]
  have ec : L2.cutS (S l) (some (if negL l = true then 1 else 0)) none = S (l.drop (if negL l then 1 else 0)) := by
    cases negL l
    · exact cutT_from (by decide)
    · exact cutT_from (by decide)
  have es : (PySem.Txt.split (S (l.drop (if negL l then 1 else 0))) (S [47])).map D.str = (partsL l).map strL := splS_S (by decide)
  have ln : (S l).length = l.length := SX.S_len l
  have lr : (l.drop (if negL l then 1 else 0)).length ≤ l.length := by rw [List.length_drop]; omega
  have lp : (partsL l).length ≤ l.length + 1 := Nat.le_trans (spl_len _ _ _) (by omega)
  have ls : (PySem.Txt.split (S (l.drop (if negL l then 1 else 0))) (S [47])).length = (partsL l).length := by
    have := congrArg List.length es
    simpa using this
  rw [ec, es, ls, ln]
  simp only [SX.S_len]
  refine ⟨hl, ⟨by simp [SX.S_len], by unfold sizeLine; omega⟩, by omega, comp_mapT strL (fun p => optD (wholeL p)) (partsL l) [] _ (fun p hp acc ds K ih => ?_) ?_⟩
  · simp [cE, vE, bE, rE, fE, mE, bin, nilA, consA, bT, andT, orT, notT, tupE, lstE, allV, allM, okB, intR, addR, asL, asT, asD, eqR, eqD_nn, eqD_bb, eqD_ii, eqD_ss, eqD_tt, eqD_ll, eqD_bi, eqD_ib, eqD_nt, eqD_tn, eqD_it, eqD_ti, eqD_ni, eqD_in, eqDs_nn, eqDs_cc, eqDs_nc, eqDs_cn, cmpD, cmpDs, depD, depDs, isNon, isNR, chainE, tvE, andV, orV, notV, ifE, slEV, ixR, callV, lenC, isiC, tyN, pick, retEV, callP, argD, argDs, seqS, bkS, ctS, exprS, retS, retNS, ifS, evSl, setS, SK.loop, gN, gNil, gCons, gT, asgS, parS, defF, defK, raiseS, absC, divmodC, mmC, stL, itL, itT, itR1, itR2, itE, shL, itZ, itV, forS, evD, methL, appL, clrL, popL, insL, trL, extL, setixS, argS, argSs, callI, callN, hereA, nextA, negE, itS, wipeR, compE, compD, yesT, seqD, listC, tupC, numd, zipd, nxS, frSl, retSl, retSls, retOk, retOks, tryAsS, tryOnlyS, lookB, kinE, xfE, lookF, frzE, isTR, isTB, allC, blsD, gU, raiseIS, at0, at1, at2, at3, lrE, sortC, intC, intsD, slE, intO, cutD, eqXR, slX, addT, repT, inR, cmpO, heldR, appT, lrE, sortC, intC, intsD, slE, intO, cutD, eqXR, slX, addT, repT, compX, compDx, neYR, lrevE, inTR, strC, intTC, strE, splS, joiS, slZ, itC, inSR, strsD, repS, compZ, compDz]
    refine ⟨p, rfl, ?_, ih⟩
    have := spl_part _ _ _ p hp
    simp at this
    omega
  · have em : (partsL l).map (fun p => optD (wholeL p)) = ((partsL l).map wholeL).map optD := by rw [List.map_map]; rfl
    rw [List.nil_append, em]
    have hne : (partsL l).map wholeL ≠ [] := by
      intro z
      exact spl_ne _ _ _ (List.map_eq_nil_iff.mp z)
    have hb : ∀ a : Nat, some a ∈ (partsL l).map wholeL → Si 4000 (a : Nat) := fun a ha => by
      obtain ⟨p, _, e⟩ := List.mem_map.mp ha
      have := wholeL_lt e
      unfold Si
      rw [Int.natAbs_natCast]
      exact Nat.lt_trans this (by decide +kernel)
    unfold fracL at h
    generalize (partsL l).map wholeL = ws at *
    generalize negL l = neg at *
    match ws, hne with
    | [none], _ =>
      simp [sf__law_fraction_r4, cE, vE, bE, rE, fE, mE, bin, nilA, consA, bT, andT, orT, notT, tupE, lstE, allV, allM, okB, intR, addR, asL, asT, asD, eqR, eqD_nn, eqD_bb, eqD_ii, eqD_ss, eqD_tt, eqD_ll, eqD_bi, eqD_ib, eqD_nt, eqD_tn, eqD_it, eqD_ti, eqD_ni, eqD_in, eqDs_nn, eqDs_cc, eqDs_nc, eqDs_cn, cmpD, cmpDs, depD, depDs, isNon, isNR, chainE, tvE, andV, orV, notV, ifE, slEV, ixR, callV, lenC, isiC, tyN, pick, retEV, callP, argD, argDs, seqS, bkS, ctS, exprS, retS, retNS, ifS, evSl, setS, SK.loop, gN, gNil, gCons, gT, asgS, parS, defF, defK, raiseS, absC, divmodC, mmC, stL, itL, itT, itR1, itR2, itE, shL, itZ, itV, forS, evD, methL, appL, clrL, popL, insL, trL, extL, setixS, argS, argSs, callI, callN, hereA, nextA, negE, itS, wipeR, compE, compD, yesT, seqD, listC, tupC, numd, zipd, nxS, frSl, retSl, retSls, retOk, retOks, tryAsS, tryOnlyS, lookB, kinE, xfE, lookF, frzE, isTR, isTB, allC, blsD, gU, raiseIS, at0, at1, at2, at3, lrE, sortC, intC, intsD, slE, intO, cutD, eqXR, slX, addT, repT, inR, cmpO, heldR, appT, lrE, sortC, intC, intsD, slE, intO, cutD, eqXR, slX, addT, repT, compX, compDx, neYR, lrevE, inTR, strC, intTC, strE, splS, joiS, slZ, itC, inSR, strsD, repS, compZ, compDz, optD]
      exact h
    | [none, y], _ =>
      cases y <;> simp [sf__law_fraction_r4, cE, vE, bE, rE, fE, mE, bin, nilA, consA, bT, andT, orT, notT, tupE, lstE, allV, allM, okB, intR, addR, asL, asT, asD, eqR, eqD_nn, eqD_bb, eqD_ii, eqD_ss, eqD_tt, eqD_ll, eqD_bi, eqD_ib, eqD_nt, eqD_tn, eqD_it, eqD_ti, eqD_ni, eqD_in, eqDs_nn, eqDs_cc, eqDs_nc, eqDs_cn, cmpD, cmpDs, depD, depDs, isNon, isNR, chainE, tvE, andV, orV, notV, ifE, slEV, ixR, callV, lenC, isiC, tyN, pick, retEV, callP, argD, argDs, seqS, bkS, ctS, exprS, retS, retNS, ifS, evSl, setS, SK.loop, gN, gNil, gCons, gT, asgS, parS, defF, defK, raiseS, absC, divmodC, mmC, stL, itL, itT, itR1, itR2, itE, shL, itZ, itV, forS, evD, methL, appL, clrL, popL, insL, trL, extL, setixS, argS, argSs, callI, callN, hereA, nextA, negE, itS, wipeR, compE, compD, yesT, seqD, listC, tupC, numd, zipd, nxS, frSl, retSl, retSls, retOk, retOks, tryAsS, tryOnlyS, lookB, kinE, xfE, lookF, frzE, isTR, isTB, allC, blsD, gU, raiseIS, at0, at1, at2, at3, lrE, sortC, intC, intsD, slE, intO, cutD, eqXR, slX, addT, repT, inR, cmpO, heldR, appT, lrE, sortC, intC, intsD, slE, intO, cutD, eqXR, slX, addT, repT, compX, compDx, neYR, lrevE, inTR, strC, intTC, strE, splS, joiS, slZ, itC, inSR, strsD, repS, compZ, compDz, optD] <;> exact h
    | [some x, none], _ =>
      simp [sf__law_fraction_r4, cE, vE, bE, rE, fE, mE, bin, nilA, consA, bT, andT, orT, notT, tupE, lstE, allV, allM, okB, intR, addR, asL, asT, asD, eqR, eqD_nn, eqD_bb, eqD_ii, eqD_ss, eqD_tt, eqD_ll, eqD_bi, eqD_ib, eqD_nt, eqD_tn, eqD_it, eqD_ti, eqD_ni, eqD_in, eqDs_nn, eqDs_cc, eqDs_nc, eqDs_cn, cmpD, cmpDs, depD, depDs, isNon, isNR, chainE, tvE, andV, orV, notV, ifE, slEV, ixR, callV, lenC, isiC, tyN, pick, retEV, callP, argD, argDs, seqS, bkS, ctS, exprS, retS, retNS, ifS, evSl, setS, SK.loop, gN, gNil, gCons, gT, asgS, parS, defF, defK, raiseS, absC, divmodC, mmC, stL, itL, itT, itR1, itR2, itE, shL, itZ, itV, forS, evD, methL, appL, clrL, popL, insL, trL, extL, setixS, argS, argSs, callI, callN, hereA, nextA, negE, itS, wipeR, compE, compD, yesT, seqD, listC, tupC, numd, zipd, nxS, frSl, retSl, retSls, retOk, retOks, tryAsS, tryOnlyS, lookB, kinE, xfE, lookF, frzE, isTR, isTB, allC, blsD, gU, raiseIS, at0, at1, at2, at3, lrE, sortC, intC, intsD, slE, intO, cutD, eqXR, slX, addT, repT, inR, cmpO, heldR, appT, lrE, sortC, intC, intsD, slE, intO, cutD, eqXR, slX, addT, repT, compX, compDx, neYR, lrevE, inTR, strC, intTC, strE, splS, joiS, slZ, itC, inSR, strsD, repS, compZ, compDz, optD]
      exact h
    | [some a], _ =>
      have sa := hb a (by simp)
      cases neg
      · simp [sf__law_fraction_r4, sf__law_fraction_r3, cE, vE, bE, rE, fE, mE, bin, nilA, consA, bT, andT, orT, notT, tupE, lstE, allV, allM, okB, intR, addR, asL, asT, asD, eqR, eqD_nn, eqD_bb, eqD_ii, eqD_ss, eqD_tt, eqD_ll, eqD_bi, eqD_ib, eqD_nt, eqD_tn, eqD_it, eqD_ti, eqD_ni, eqD_in, eqDs_nn, eqDs_cc, eqDs_nc, eqDs_cn, cmpD, cmpDs, depD, depDs, isNon, isNR, chainE, tvE, andV, orV, notV, ifE, slEV, ixR, callV, lenC, isiC, tyN, pick, retEV, callP, argD, argDs, seqS, bkS, ctS, exprS, retS, retNS, ifS, evSl, setS, SK.loop, gN, gNil, gCons, gT, asgS, parS, defF, defK, raiseS, absC, divmodC, mmC, stL, itL, itT, itR1, itR2, itE, shL, itZ, itV, forS, evD, methL, appL, clrL, popL, insL, trL, extL, setixS, argS, argSs, callI, callN, hereA, nextA, negE, itS, wipeR, compE, compD, yesT, seqD, listC, tupC, numd, zipd, nxS, frSl, retSl, retSls, retOk, retOks, tryAsS, tryOnlyS, lookB, kinE, xfE, lookF, frzE, isTR, isTB, allC, blsD, gU, raiseIS, at0, at1, at2, at3, lrE, sortC, intC, intsD, slE, intO, cutD, eqXR, slX, addT, repT, inR, cmpO, heldR, appT, lrE, sortC, intC, intsD, slE, intO, cutD, eqXR, slX, addT, repT, compX, compDx, neYR, lrevE, inTR, strC, intTC, strE, splS, joiS, slZ, itC, inSR, strsD, repS, compZ, compDz, optD]
        refine ⟨MulOk.of (m := 4) sa (by unfold Si; decide) (by decide), fc_r2 (b := 1) (two := false) (by unfold Si; decide +kernel) (by simp) (by simp) ?_⟩
        rw [if_neg (by simp)]
        simp [pick, retSls, retSl, retOk, retOks]
        simp at h
        rw [show fracD (some ((a : Int) : Rat)) = _ from frD_int a] at h
        exact h
      · simp [sf__law_fraction_r4, sf__law_fraction_r3, cE, vE, bE, rE, fE, mE, bin, nilA, consA, bT, andT, orT, notT, tupE, lstE, allV, allM, okB, intR, addR, asL, asT, asD, eqR, eqD_nn, eqD_bb, eqD_ii, eqD_ss, eqD_tt, eqD_ll, eqD_bi, eqD_ib, eqD_nt, eqD_tn, eqD_it, eqD_ti, eqD_ni, eqD_in, eqDs_nn, eqDs_cc, eqDs_nc, eqDs_cn, cmpD, cmpDs, depD, depDs, isNon, isNR, chainE, tvE, andV, orV, notV, ifE, slEV, ixR, callV, lenC, isiC, tyN, pick, retEV, callP, argD, argDs, seqS, bkS, ctS, exprS, retS, retNS, ifS, evSl, setS, SK.loop, gN, gNil, gCons, gT, asgS, parS, defF, defK, raiseS, absC, divmodC, mmC, stL, itL, itT, itR1, itR2, itE, shL, itZ, itV, forS, evD, methL, appL, clrL, popL, insL, trL, extL, setixS, argS, argSs, callI, callN, hereA, nextA, negE, itS, wipeR, compE, compD, yesT, seqD, listC, tupC, numd, zipd, nxS, frSl, retSl, retSls, retOk, retOks, tryAsS, tryOnlyS, lookB, kinE, xfE, lookF, frzE, isTR, isTB, allC, blsD, gU, raiseIS, at0, at1, at2, at3, lrE, sortC, intC, intsD, slE, intO, cutD, eqXR, slX, addT, repT, inR, cmpO, heldR, appT, lrE, sortC, intC, intsD, slE, intO, cutD, eqXR, slX, addT, repT, compX, compDx, neYR, lrevE, inTR, strC, intTC, strE, splS, joiS, slZ, itC, inSR, strsD, repS, compZ, compDz, optD]
        by_cases a0 : a = 0
        · rw [if_pos a0]
          simp [a0] at h
          exact h
        · rw [if_neg a0]
          refine ⟨MulOk.of (m := 4) sa (by unfold Si; decide) (by decide), fc_r2 (b := 1) (two := false) (by unfold Si; decide +kernel) (by simp) (by simp) ?_⟩
          rw [if_neg (by simp)]
          simp [pick, retSls, retSl, retOk, retOks]
          simp [a0] at h
          have e := frD_int (-(a : Int))
          rw [Rat.intCast_neg] at e
          rw [show fracD (some (-((a : Int) : Rat))) = _ from e] at h
          exact h
    | [some a, some b], _ =>
      have sa := hb a (by simp)
      have sb := hb b (by simp)
      cases neg
      · simp [sf__law_fraction_r4, sf__law_fraction_r3, cE, vE, bE, rE, fE, mE, bin, nilA, consA, bT, andT, orT, notT, tupE, lstE, allV, allM, okB, intR, addR, asL, asT, asD, eqR, eqD_nn, eqD_bb, eqD_ii, eqD_ss, eqD_tt, eqD_ll, eqD_bi, eqD_ib, eqD_nt, eqD_tn, eqD_it, eqD_ti, eqD_ni, eqD_in, eqDs_nn, eqDs_cc, eqDs_nc, eqDs_cn, cmpD, cmpDs, depD, depDs, isNon, isNR, chainE, tvE, andV, orV, notV, ifE, slEV, ixR, callV, lenC, isiC, tyN, pick, retEV, callP, argD, argDs, seqS, bkS, ctS, exprS, retS, retNS, ifS, evSl, setS, SK.loop, gN, gNil, gCons, gT, asgS, parS, defF, defK, raiseS, absC, divmodC, mmC, stL, itL, itT, itR1, itR2, itE, shL, itZ, itV, forS, evD, methL, appL, clrL, popL, insL, trL, extL, setixS, argS, argSs, callI, callN, hereA, nextA, negE, itS, wipeR, compE, compD, yesT, seqD, listC, tupC, numd, zipd, nxS, frSl, retSl, retSls, retOk, retOks, tryAsS, tryOnlyS, lookB, kinE, xfE, lookF, frzE, isTR, isTB, allC, blsD, gU, raiseIS, at0, at1, at2, at3, lrE, sortC, intC, intsD, slE, intO, cutD, eqXR, slX, addT, repT, inR, cmpO, heldR, appT, lrE, sortC, intC, intsD, slE, intO, cutD, eqXR, slX, addT, repT, compX, compDx, neYR, lrevE, inTR, strC, intTC, strE, splS, joiS, slZ, itC, inSR, strsD, repS, compZ, compDz, optD]
        refine ⟨MulOk.of (m := 4) sa (by unfold Si; decide) (by decide), fc_r2 (two := true) sb (by simp) (by simp) ?_⟩
        dsimp only at h
        by_cases c : b = 0 ∨ b = 1 ∨ ¬ Nat.gcd a b = 1
        · rw [if_pos (by
            rcases c with c | c | c
            · exact .inl c
            · exact .inr (.inl ⟨rfl, c⟩)
            · exact .inr (.inr c))]
          have hn : K (.v .non) [] := by
            by_cases b1 : b = 1
            · rw [if_pos b1] at h; exact h
            · rw [if_neg b1, if_pos (.inr (fun z => by rcases c with c | c | c; omega; exact b1 c; exact c z.2))] at h; exact h
          simp [pick, retSls, retSl, retOk, retOks]
          exact hn
        · have b0 : ¬ b = 0 := fun z => c (.inl z)
          have b1 : ¬ b = 1 := fun z => c (.inr (.inl z))
          have g : Nat.gcd a b = 1 := Classical.byContradiction fun z => c (.inr (.inr z))
          rw [if_neg (by rintro (z | ⟨_, z⟩ | z); exact b0 z; exact b1 z; exact z g)]
          rw [if_neg b1, if_neg (by rintro (⟨z, _⟩ | z); cases z; exact z ⟨by omega, g⟩)] at h
          have hg : Int.gcd (a : Int) (b : Int) = 1 := g
          rw [show fracD (some _) = _ from fr_two (by omega : (0 : Int) < b) (show Int.gcd (if false = true then -(a : Int) else (a : Int)) (b : Int) = 1 from hg)] at h
          simp [pick, retSls, retSl, retOk, retOks]
          exact h
      · simp [sf__law_fraction_r4, sf__law_fraction_r3, cE, vE, bE, rE, fE, mE, bin, nilA, consA, bT, andT, orT, notT, tupE, lstE, allV, allM, okB, intR, addR, asL, asT, asD, eqR, eqD_nn, eqD_bb, eqD_ii, eqD_ss, eqD_tt, eqD_ll, eqD_bi, eqD_ib, eqD_nt, eqD_tn, eqD_it, eqD_ti, eqD_ni, eqD_in, eqDs_nn, eqDs_cc, eqDs_nc, eqDs_cn, cmpD, cmpDs, depD, depDs, isNon, isNR, chainE, tvE, andV, orV, notV, ifE, slEV, ixR, callV, lenC, isiC, tyN, pick, retEV, callP, argD, argDs, seqS, bkS, ctS, exprS, retS, retNS, ifS, evSl, setS, SK.loop, gN, gNil, gCons, gT, asgS, parS, defF, defK, raiseS, absC, divmodC, mmC, stL, itL, itT, itR1, itR2, itE, shL, itZ, itV, forS, evD, methL, appL, clrL, popL, insL, trL, extL, setixS, argS, argSs, callI, callN, hereA, nextA, negE, itS, wipeR, compE, compD, yesT, seqD, listC, tupC, numd, zipd, nxS, frSl, retSl, retSls, retOk, retOks, tryAsS, tryOnlyS, lookB, kinE, xfE, lookF, frzE, isTR, isTB, allC, blsD, gU, raiseIS, at0, at1, at2, at3, lrE, sortC, intC, intsD, slE, intO, cutD, eqXR, slX, addT, repT, inR, cmpO, heldR, appT, lrE, sortC, intC, intsD, slE, intO, cutD, eqXR, slX, addT, repT, compX, compDx, neYR, lrevE, inTR, strC, intTC, strE, splS, joiS, slZ, itC, inSR, strsD, repS, compZ, compDz, optD]
        dsimp only at h
        by_cases a0 : a = 0
        · rw [if_pos a0]
          have hn : K (.v .non) [] := by
            by_cases b1 : b = 1
            · rw [if_pos b1] at h; exact h
            · rw [if_neg b1, if_pos (.inl ⟨rfl, a0⟩)] at h; exact h
          exact hn
        · rw [if_neg a0]
          refine ⟨MulOk.of (m := 4) sa (by unfold Si; decide) (by decide), fc_r2 (two := true) sb (by simp) (by simp) ?_⟩
          by_cases c : b = 0 ∨ b = 1 ∨ ¬ Nat.gcd a b = 1
          · rw [if_pos (by
              rcases c with c | c | c
              · exact .inl c
              · exact .inr (.inl ⟨rfl, c⟩)
              · exact .inr (.inr (by rw [Int.neg_gcd]; exact c)))]
            have hn : K (.v .non) [] := by
              by_cases b1 : b = 1
              · rw [if_pos b1] at h; exact h
              · rw [if_neg b1, if_pos (.inr (fun z => by rcases c with c | c | c; omega; exact b1 c; exact c z.2))] at h; exact h
            simp [pick, retSls, retSl, retOk, retOks]
            exact hn
          · have b0 : ¬ b = 0 := fun z => c (.inl z)
            have b1 : ¬ b = 1 := fun z => c (.inr (.inl z))
            have g : Nat.gcd a b = 1 := Classical.byContradiction fun z => c (.inr (.inr z))
            have hg : Int.gcd (-(a : Int)) (b : Int) = 1 := by rw [Int.neg_gcd]; exact g
            rw [if_neg (by rintro (z | ⟨_, z⟩ | z); exact b0 z; exact b1 z; exact z hg)]
            rw [if_neg b1, if_neg (by rintro (⟨_, z⟩ | z); exact a0 z; exact z ⟨by omega, g⟩)] at h
            rw [show fracD (some _) = _ from fr_two (by omega : (0 : Int) < b) (show Int.gcd (if true = true then -(a : Int) else (a : Int)) (b : Int) = 1 from hg)] at h
            simp [pick, retSls, retSl, retOk, retOks]
            exact h
    | x :: y :: z :: r, _ =>
      have lt2 : (2 : Int) < (r.length : Int) + 1 + 1 + 1 := by omega
      have hn : K (.v .non) [] := by cases x <;> cases y <;> exact h
      simp [sf__law_fraction_r4, cE, vE, bE, rE, fE, mE, bin, nilA, consA, bT, andT, orT, notT, tupE, lstE, allV, allM, okB, intR, addR, asL, asT, asD, eqR, eqD_nn, eqD_bb, eqD_ii, eqD_ss, eqD_tt, eqD_ll, eqD_bi, eqD_ib, eqD_nt, eqD_tn, eqD_it, eqD_ti, eqD_ni, eqD_in, eqDs_nn, eqDs_cc, eqDs_nc, eqDs_cn, cmpD, cmpDs, depD, depDs, isNon, isNR, chainE, tvE, andV, orV, notV, ifE, slEV, ixR, callV, lenC, isiC, tyN, pick, retEV, callP, argD, argDs, seqS, bkS, ctS, exprS, retS, retNS, ifS, evSl, setS, SK.loop, gN, gNil, gCons, gT, asgS, parS, defF, defK, raiseS, absC, divmodC, mmC, stL, itL, itT, itR1, itR2, itE, shL, itZ, itV, forS, evD, methL, appL, clrL, popL, insL, trL, extL, setixS, argS, argSs, callI, callN, hereA, nextA, negE, itS, wipeR, compE, compD, yesT, seqD, listC, tupC, numd, zipd, nxS, frSl, retSl, retSls, retOk, retOks, tryAsS, tryOnlyS, lookB, kinE, xfE, lookF, frzE, isTR, isTB, allC, blsD, gU, raiseIS, at0, at1, at2, at3, lrE, sortC, intC, intsD, slE, intO, cutD, eqXR, slX, addT, repT, inR, cmpO, heldR, appT, lrE, sortC, intC, intsD, slE, intO, cutD, eqXR, slX, addT, repT, compX, compDx, neYR, lrevE, inTR, strC, intTC, strE, splS, joiS, slZ, itC, inSR, strsD, repS, compZ, compDz, lt2, cmp_optD1, cmp_optD]
      exact hn
theorem rl_r1 {z : D} {acc : List Bw} {n : Nat} {s3 s4 : Sl} {b : Bw} {k : SK} (ha : ∀ b ∈ acc, SmT b.p) (hb : SmT b.p) (hl : acc.length < 1000000)
    (h : if fitsL acc b = true then k.nx [.v z, .l ((acc ++ [b]).map wD), .v (.int (n : Nat)), s3, s4, .v (wD b)] else k.rt (.v (.int (n : Nat))) [.v z, .l (acc.map wD), .v (.int (n : Nat)), s3, s4, .v (wD b)]) :
    sf__law_read_r1 [.v z, .l (acc.map wD), .v (.int (n : Nat)), s3, s4, .v (wD b)] k := by
  have cw := cmp_w acc
  rcases List.eq_nil_or_concat acc with rfl | ⟨a', a, rfl⟩
  · have e : fitsL [] b = true := rfl
    rw [if_pos e] at h
    simp [sf__law_read_r1, cE, vE, bE, rE, fE, mE, bin, nilA, consA, bT, andT, orT, notT, tupE, lstE, allV, allM, okB, intR, addR, asL, asT, asD, eqR, eqD_nn, eqD_bb, eqD_ii, eqD_ss, eqD_tt, eqD_ll, eqD_bi, eqD_ib, eqD_nt, eqD_tn, eqD_it, eqD_ti, eqD_ni, eqD_in, eqDs_nn, eqDs_cc, eqDs_nc, eqDs_cn, cmpD, cmpDs, depD, depDs, isNon, isNR, chainE, tvE, andV, orV, notV, ifE, slEV, ixR, callV, lenC, isiC, tyN, pick, retEV, callP, argD, argDs, seqS, bkS, ctS, exprS, retS, retNS, ifS, evSl, setS, SK.loop, gN, gNil, gCons, gT, asgS, parS, defF, defK, raiseS, absC, divmodC, mmC, stL, itL, itT, itR1, itR2, itE, shL, itZ, itV, forS, evD, methL, appL, clrL, popL, insL, trL, extL, setixS, argS, argSs, callI, callN, hereA, nextA, negE, itS, wipeR, compE, compD, yesT, seqD, listC, tupC, numd, zipd, nxS, frSl, retSl, retSls, retOk, retOks, tryAsS, tryOnlyS, lookB, kinE, xfE, lookF, frzE, isTR, isTB, allC, blsD, gU, raiseIS, at0, at1, at2, at3, lrE, sortC, intC, intsD, slE, intO, cutD, eqXR, slX, addT, repT, inR, cmpO, heldR, appT, lrE, sortC, intC, intsD, slE, intO, cutD, eqXR, slX, addT, repT, compX, compDx, neYR, lrevE, inTR, strC, intTC, strE, splS, joiS, slZ, itC, inSR, strsD, repS, compZ, compDz]
    exact h
  · rw [List.concat_eq_append] at *
    have e : fitsL (a' ++ [a]) b = decide (a.p < b.p) := by unfold fitsL; rw [List.getLast?_append]; rfl
    rw [e] at h
    have la : L2.atI (a'.map wD ++ [.tup [frD a.p, frD a.u, .int a.m]]) (-1) = some (.tup [frD a.p, frD a.u, .int a.m]) := at_neg1
    have ne : eqDs (a'.map wD ++ [.tup [frD a.p, frD a.u, .int a.m]]) [] = false := by cases a' <;> simp [eqDs]
    have sa := (ha a (by simp)).sm
    have sb := hb.sm
    have i4 : (400 : Nat) ≤ 4000 := by decide
    have cw2 : cmpDs (a'.map wD ++ [.tup [frD a.p, frD a.u, .int a.m]]) = true := by rw [List.map_append] at cw; exact cw
    simp at hl
    simp [sf__law_read_r1, cE, vE, bE, rE, fE, mE, bin, nilA, consA, bT, andT, orT, notT, tupE, lstE, allV, allM, okB, intR, addR, asL, asT, asD, eqR, eqD_nn, eqD_bb, eqD_ii, eqD_ss, eqD_tt, eqD_ll, eqD_bi, eqD_ib, eqD_nt, eqD_tn, eqD_it, eqD_ti, eqD_ni, eqD_in, eqDs_nn, eqDs_cc, eqDs_nc, eqDs_cn, cmpD, cmpDs, depD, depDs, isNon, isNR, chainE, tvE, andV, orV, notV, ifE, slEV, ixR, callV, lenC, isiC, tyN, pick, retEV, callP, argD, argDs, seqS, bkS, ctS, exprS, retS, retNS, ifS, evSl, setS, SK.loop, gN, gNil, gCons, gT, asgS, parS, defF, defK, raiseS, absC, divmodC, mmC, stL, itL, itT, itR1, itR2, itE, shL, itZ, itV, forS, evD, methL, appL, clrL, popL, insL, trL, extL, setixS, argS, argSs, callI, callN, hereA, nextA, negE, itS, wipeR, compE, compD, yesT, seqD, listC, tupC, numd, zipd, nxS, frSl, retSl, retSls, retOk, retOks, tryAsS, tryOnlyS, lookB, kinE, xfE, lookF, frzE, isTR, isTB, allC, blsD, gU, raiseIS, at0, at1, at2, at3, lrE, sortC, intC, intsD, slE, intO, cutD, eqXR, slX, addT, repT, inR, cmpO, heldR, appT, lrE, sortC, intC, intsD, slE, intO, cutD, eqXR, slX, addT, repT, compX, compDx, neYR, lrevE, inTR, strC, intTC, strE, splS, joiS, slZ, itC, inSR, strsD, repS, compZ, compDz, ne, la, wD, F__law_less, F_under, cw2, nd]
    by_cases c : a.p < b.p
    · rw [if_pos (decide_eq_true c)] at h
      simp [wD] at h
      try simp [c]
      exact ⟨⟨a.p.den_pos, b.p.den_pos, sa.n.mono i4, sa.d.mono i4, sb.n.mono i4, sb.d.mono i4⟩, by omega, h⟩
    · rw [if_neg (by simpa using c)] at h
      simp [wD] at h
      try simp [c]
      exact ⟨⟨a.p.den_pos, b.p.den_pos, sa.n.mono i4, sa.d.mono i4, sb.n.mono i4, sb.d.mono i4⟩, h⟩
theorem cmp_frac (x : Option Rat) : cmpD (fracD x) = true := by cases x <;> simp [fracD, cmpD, cmpDs]
theorem rl_r3 {z : D} {ps : List (List Nat)} {acc : List Bw} {n : Nat} {s3 s5 : Sl} {k : SK} (x y m : List Nat) (hp : ∀ p ∈ [x, y, m], p.length ≤ 100000)
    (h : match fracL x, fracL y, wholeL m with
      | some p, some u, some w => if 1 ≤ w ∧ w ≤ 1000 then sf__law_read_r1 [.v z, .l (acc.map wD), .v (.int (n : Nat)), s3, .v (.lst true [strL x, strL y, strL m]), .v (wD ⟨p, u, (w : Nat)⟩)] k else ∀ r s, k.rt (.v (.int (n : Nat))) [.v z, r, .v (.int (n : Nat)), s3, .v (.lst true [strL x, strL y, strL m]), s]
      | _, _, _ => ∀ r s, k.rt (.v (.int (n : Nat))) [.v z, r, .v (.int (n : Nat)), s3, .v (.lst true [strL x, strL y, strL m]), s]) :
    sf__law_read_r3 [.v z, .l (acc.map wD), .v (.int (n : Nat)), s3, .v (.lst true [strL x, strL y, strL m]), s5] k := by
  simp [sf__law_read_r3, cE, vE, bE, rE, fE, mE, bin, nilA, consA, bT, andT, orT, notT, tupE, lstE, allV, allM, okB, intR, addR, asL, asT, asD, eqR, eqD_nn, eqD_bb, eqD_ii, eqD_ss, eqD_tt, eqD_ll, eqD_bi, eqD_ib, eqD_nt, eqD_tn, eqD_it, eqD_ti, eqD_ni, eqD_in, eqDs_nn, eqDs_cc, eqDs_nc, eqDs_cn, cmpD, cmpDs, depD, depDs, isNon, isNR, chainE, tvE, andV, orV, notV, ifE, slEV, ixR, callV, lenC, isiC, tyN, pick, retEV, callP, argD, argDs, seqS, bkS, ctS, exprS, retS, retNS, ifS, evSl, setS, SK.loop, gN, gNil, gCons, gT, asgS, parS, defF, defK, raiseS, absC, divmodC, mmC, stL, itL, itT, itR1, itR2, itE, shL, itZ, itV, forS, evD, methL, appL, clrL, popL, insL, trL, extL, setixS, argS, argSs, callI, callN, hereA, nextA, negE, itS, wipeR, compE, compD, yesT, seqD, listC, tupC, numd, zipd, nxS, frSl, retSl, retSls, retOk, retOks, tryAsS, tryOnlyS, lookB, kinE, xfE, lookF, frzE, isTR, isTB, allC, blsD, gU, raiseIS, at0, at1, at2, at3, lrE, sortC, intC, intsD, slE, intO, cutD, eqXR, slX, addT, repT, inR, cmpO, heldR, appT, lrE, sortC, intC, intsD, slE, intO, cutD, eqXR, slX, addT, repT, compX, compDx, neYR, lrevE, inTR, strC, intTC, strE, splS, joiS, slZ, itC, inSR, strsD, repS, compZ, compDz]
  refine ⟨x, rfl, hp x (by simp), y, rfl, hp y (by simp), m, rfl, hp m (by simp), ?_⟩
  show _ ∧ _ ∧ _ ∧ _
  refine ⟨trivial, trivial, trivial, ?_⟩
  show sf__law_read_r2 [.v z, .l (acc.map wD), .v (.int (n : Nat)), s3, .v (.lst true [strL x, strL y, strL m]), .v (.tup [fracD (fracL x), fracD (fracL y), optD (wholeL m)])] k
  have c1 := cmp_frac (fracL x)
  have c2 := cmp_frac (fracL y)
  have c3 := cmp_optD1 (wholeL m)
  generalize fracL x = fx at *
  generalize fracL y = fy at *
  generalize wholeL m = fm at *
  cases fx with
  | none => cases fy <;> cases fm <;> (simp [sf__law_read_r2, cE, vE, bE, rE, fE, mE, bin, nilA, consA, bT, andT, orT, notT, tupE, lstE, allV, allM, okB, intR, addR, asL, asT, asD, eqR, eqD_nn, eqD_bb, eqD_ii, eqD_ss, eqD_tt, eqD_ll, eqD_bi, eqD_ib, eqD_nt, eqD_tn, eqD_it, eqD_ti, eqD_ni, eqD_in, eqDs_nn, eqDs_cc, eqDs_nc, eqDs_cn, cmpD, cmpDs, depD, depDs, isNon, isNR, chainE, tvE, andV, orV, notV, ifE, slEV, ixR, callV, lenC, isiC, tyN, pick, retEV, callP, argD, argDs, seqS, bkS, ctS, exprS, retS, retNS, ifS, evSl, setS, SK.loop, gN, gNil, gCons, gT, asgS, parS, defF, defK, raiseS, absC, divmodC, mmC, stL, itL, itT, itR1, itR2, itE, shL, itZ, itV, forS, evD, methL, appL, clrL, popL, insL, trL, extL, setixS, argS, argSs, callI, callN, hereA, nextA, negE, itS, wipeR, compE, yesT, seqD, listC, tupC, numd, zipd, nxS, frSl, retSl, retSls, retOk, retOks, tryAsS, tryOnlyS, lookB, kinE, xfE, lookF, frzE, isTR, isTB, allC, blsD, gU, raiseIS, at0, at1, at2, at3, lrE, sortC, intC, intsD, slE, intO, eqXR, slX, addT, repT, inR, cmpO, heldR, appT, lrE, sortC, intC, intsD, slE, intO, eqXR, slX, addT, repT, compX, compDx, neYR, lrevE, inTR, strC, intTC, strE, splS, joiS, slZ, itC, inSR, strsD, repS, compZ, compDz, fracD, optD]; exact h _ _)
  | some p =>
    cases fy with
    | none => cases fm <;> (simp [sf__law_read_r2, cE, vE, bE, rE, fE, mE, bin, nilA, consA, bT, andT, orT, notT, tupE, lstE, allV, allM, okB, intR, addR, asL, asT, asD, eqR, eqD_nn, eqD_bb, eqD_ii, eqD_ss, eqD_tt, eqD_ll, eqD_bi, eqD_ib, eqD_nt, eqD_tn, eqD_it, eqD_ti, eqD_ni, eqD_in, eqDs_nn, eqDs_cc, eqDs_nc, eqDs_cn, cmpD, cmpDs, depD, depDs, isNon, isNR, chainE, tvE, andV, orV, notV, ifE, slEV, ixR, callV, lenC, isiC, tyN, pick, retEV, callP, argD, argDs, seqS, bkS, ctS, exprS, retS, retNS, ifS, evSl, setS, SK.loop, gN, gNil, gCons, gT, asgS, parS, defF, defK, raiseS, absC, divmodC, mmC, stL, itL, itT, itR1, itR2, itE, shL, itZ, itV, forS, evD, methL, appL, clrL, popL, insL, trL, extL, setixS, argS, argSs, callI, callN, hereA, nextA, negE, itS, wipeR, compE, yesT, seqD, listC, tupC, numd, zipd, nxS, frSl, retSl, retSls, retOk, retOks, tryAsS, tryOnlyS, lookB, kinE, xfE, lookF, frzE, isTR, isTB, allC, blsD, gU, raiseIS, at0, at1, at2, at3, lrE, sortC, intC, intsD, slE, intO, eqXR, slX, addT, repT, inR, cmpO, heldR, appT, lrE, sortC, intC, intsD, slE, intO, eqXR, slX, addT, repT, compX, compDx, neYR, lrevE, inTR, strC, intTC, strE, splS, joiS, slZ, itC, inSR, strsD, repS, compZ, compDz, fracD, optD]; exact h _ _)
    | some u =>
      cases fm with
      | none => simp [sf__law_read_r2, cE, vE, bE, rE, fE, mE, bin, nilA, consA, bT, andT, orT, notT, tupE, lstE, allV, allM, okB, intR, addR, asL, asT, asD, eqR, eqD_nn, eqD_bb, eqD_ii, eqD_ss, eqD_tt, eqD_ll, eqD_bi, eqD_ib, eqD_nt, eqD_tn, eqD_it, eqD_ti, eqD_ni, eqD_in, eqDs_nn, eqDs_cc, eqDs_nc, eqDs_cn, cmpD, cmpDs, depD, depDs, isNon, isNR, chainE, tvE, andV, orV, notV, ifE, slEV, ixR, callV, lenC, isiC, tyN, pick, retEV, callP, argD, argDs, seqS, bkS, ctS, exprS, retS, retNS, ifS, evSl, setS, SK.loop, gN, gNil, gCons, gT, asgS, parS, defF, defK, raiseS, absC, divmodC, mmC, stL, itL, itT, itR1, itR2, itE, shL, itZ, itV, forS, evD, methL, appL, clrL, popL, insL, trL, extL, setixS, argS, argSs, callI, callN, hereA, nextA, negE, itS, wipeR, compE, yesT, seqD, listC, tupC, numd, zipd, nxS, frSl, retSl, retSls, retOk, retOks, tryAsS, tryOnlyS, lookB, kinE, xfE, lookF, frzE, isTR, isTB, allC, blsD, gU, raiseIS, at0, at1, at2, at3, lrE, sortC, intC, intsD, slE, intO, eqXR, slX, addT, repT, inR, cmpO, heldR, appT, lrE, sortC, intC, intsD, slE, intO, eqXR, slX, addT, repT, compX, compDx, neYR, lrevE, inTR, strC, intTC, strE, splS, joiS, slZ, itC, inSR, strsD, repS, compZ, compDz, fracD, optD]; exact h _ _
      | some w =>
        dsimp only at h
        simp [sf__law_read_r2, cE, vE, bE, rE, fE, mE, bin, nilA, consA, bT, andT, orT, notT, tupE, lstE, allV, allM, okB, intR, addR, asL, asT, asD, eqR, eqD_nn, eqD_bb, eqD_ii, eqD_ss, eqD_tt, eqD_ll, eqD_bi, eqD_ib, eqD_nt, eqD_tn, eqD_it, eqD_ti, eqD_ni, eqD_in, eqDs_nn, eqDs_cc, eqDs_nc, eqDs_cn, cmpD, cmpDs, depD, depDs, isNon, isNR, chainE, tvE, andV, orV, notV, ifE, slEV, ixR, callV, lenC, isiC, tyN, pick, retEV, callP, argD, argDs, seqS, bkS, ctS, exprS, retS, retNS, ifS, evSl, setS, SK.loop, gN, gNil, gCons, gT, asgS, parS, defF, defK, raiseS, absC, divmodC, mmC, stL, itL, itT, itR1, itR2, itE, shL, itZ, itV, forS, evD, methL, appL, clrL, popL, insL, trL, extL, setixS, argS, argSs, callI, callN, hereA, nextA, negE, itS, wipeR, compE, yesT, seqD, listC, tupC, numd, zipd, nxS, frSl, retSl, retSls, retOk, retOks, tryAsS, tryOnlyS, lookB, kinE, xfE, lookF, frzE, isTR, isTB, allC, blsD, gU, raiseIS, at0, at1, at2, at3, lrE, sortC, intC, intsD, slE, intO, eqXR, slX, addT, repT, inR, cmpO, heldR, appT, lrE, sortC, intC, intsD, slE, intO, eqXR, slX, addT, repT, compX, compDx, neYR, lrevE, inTR, strC, intTC, strE, splS, joiS, slZ, itC, inSR, strsD, repS, compZ, compDz, fracD, optD]
        by_cases w1 : 1 ≤ w
        · rw [if_pos (by omega)]
          by_cases w2 : 1000 < w
          · rw [if_pos (by omega)]
            rw [if_neg (by omega)] at h
            exact h _ _
          · rw [if_neg (by omega)]
            rw [if_pos (by omega)] at h
            exact h
        · rw [if_neg (by omega)]
          rw [if_neg (by omega)] at h
          exact h _ _
theorem rl_loop {z : D} {k : SK} : ∀ (ls : List (List Nat)) (n : Nat) (acc : List Bw) (s2 s3 s4 s5 : Sl), (∀ p ∈ ls, p.length ≤ 100000) → (∀ b ∈ acc, SmT b.p) → acc.length = n → n ≤ 12 →
    (match readGo n acc ls with
      | .ok bs => ∀ s2 s3 s4 s5, k.nx [.v z, .l (bs.map wD), s2, s3, s4, s5]
      | .error m => ∀ r s2 s3 s4 s5, k.rt (.v (.int (m : Nat))) [.v z, r, s2, s3, s4, s5]) →
    loopS (gT 2 (gCons (gN 2 true) (gCons (gN 3 true) gNil))) (seqS (setS 4 true (strE (vE 3) (cE (.str " ")) splS)) sf__law_read_r4) (numd n (ls.map strL)) [.v z, .l (acc.map wD), s2, s3, s4, s5] k
  | [], n, acc, s2, s3, s4, s5, _, _, _, _, h => by
    unfold readGo at h
    exact h _ _ _ _
  | l :: ls, n, acc, s2, s3, s4, s5, hp, ha, hn, hn2, h => by
    have hl0 := hp l List.mem_cons_self
    have hl : l.length + 2 ≤ sizeLine := by unfold sizeLine; omega
    have es : (PySem.Txt.split (S l) (S [32])).map D.str = (TL.spl [32] 0 [] l).map strL := splS_S (by decide)
    have el : (S l).length = l.length := SX.S_len l
    have el32 : (S [32]).length = 1 := SX.S_len _
    have lq := spl_part (s := [32]) l [] 0
    unfold readGo at h
    have hb0 : bodyL l = (match TL.spl [32] 0 [] l with
      | [x, y, z] => (match fracL x, fracL y, wholeL z with
        | some p, some u, some m => if 1 ≤ m ∧ m ≤ 1000 then some ⟨p, u, (m : Nat)⟩ else none
        | _, _, _ => none)
      | _ => none) := rfl
    rw [List.map_cons]
    unfold numd loopS
    simp [cE, vE, bE, rE, fE, mE, bin, nilA, consA, bT, andT, orT, notT, tupE, lstE, allV, allM, okB, intR, addR, asL, asT, asD, eqR, eqD_nn, eqD_bb, eqD_ii, eqD_ss, eqD_tt, eqD_ll, eqD_bi, eqD_ib, eqD_nt, eqD_tn, eqD_it, eqD_ti, eqD_ni, eqD_in, eqDs_nn, eqDs_cc, eqDs_nc, eqDs_cn, cmpD, cmpDs, depD, depDs, isNon, isNR, chainE, tvE, andV, orV, notV, ifE, slEV, ixR, callV, lenC, isiC, tyN, pick, retEV, callP, argD, argDs, seqS, bkS, ctS, exprS, retS, retNS, ifS, evSl, setS, SK.loop, gN, gNil, gCons, gT, asgS, parS, defF, defK, raiseS, absC, divmodC, mmC, stL, itL, itT, itR1, itR2, itE, shL, itZ, itV, forS, evD, methL, appL, clrL, popL, insL, trL, extL, setixS, argS, argSs, callI, callN, hereA, nextA, negE, itS, wipeR, compE, yesT, seqD, listC, tupC, numd, zipd, nxS, frSl, retSl, retSls, retOk, retOks, tryAsS, tryOnlyS, lookB, kinE, xfE, lookF, frzE, isTR, isTB, allC, blsD, gU, raiseIS, at0, at1, at2, at3, lrE, sortC, intC, intsD, slE, intO, eqXR, slX, addT, repT, inR, cmpO, heldR, appT, lrE, sortC, intC, intsD, slE, intO, eqXR, slX, addT, repT, compX, compDx, neYR, lrevE, inTR, strC, intTC, strE, splS, joiS, slZ, itC, inSR, strsD, repS, compZ, compDz, s_blank]
    rw [es, el, el32]
    refine ⟨⟨by omega, hl⟩, ?_⟩
    have eo : ∀ b, bodyL l = some b → SmT b.p := fun b hb => (bodyL_sm hb).1
    have ih := fun acc' s2 s3 s4 s5 => rl_loop (z := z) (k := k) ls (n + 1) acc' s2 s3 s4 s5 (fun p hp' => hp p (List.mem_cons_of_mem _ hp'))
    generalize TL.spl [32] 0 [] l = ps at *
    have no : (∀ r s2 s3 s4 s5, k.rt (.v (.int (n : Nat))) [.v z, r, s2, s3, s4, s5]) → ps.length ≠ 3 → sf__law_read_r4 [.v z, .l (acc.map wD), .v (.int (n : Nat)), .v (strL l), .v (.lst true (ps.map strL)), s5] (k.loop fun ρ2 => loopS (gT 2 (gCons (gN 2 true) (gCons (gN 3 true) gNil))) (seqS (setS 4 true (strE (vE 3) (cE (.str " ")) splS)) sf__law_read_r4) (numd (n + 1) (ls.map strL)) ρ2 k) := fun hr h3 => by
      have : ¬ ((ps.length : Int) = 3) := by omega
      simp [sf__law_read_r4, cE, vE, bE, rE, fE, mE, bin, nilA, consA, bT, andT, orT, notT, tupE, lstE, allV, allM, okB, intR, addR, asL, asT, asD, eqR, eqD_nn, eqD_bb, eqD_ii, eqD_ss, eqD_tt, eqD_ll, eqD_bi, eqD_ib, eqD_nt, eqD_tn, eqD_it, eqD_ti, eqD_ni, eqD_in, eqDs_nn, eqDs_cc, eqDs_nc, eqDs_cn, cmpD, cmpDs, depD, depDs, isNon, isNR, chainE, tvE, andV, orV, notV, ifE, slEV, ixR, callV, lenC, isiC, tyN, pick, retEV, callP, argD, argDs, seqS, bkS, ctS, exprS, retS, retNS, ifS, evSl, setS, SK.loop, gN, gNil, gCons, gT, asgS, parS, defF, defK, raiseS, absC, divmodC, mmC, stL, itL, itT, itR1, itR2, itE, shL, itZ, itV, forS, evD, methL, appL, clrL, popL, insL, trL, extL, setixS, argS, argSs, callI, callN, hereA, nextA, negE, itS, wipeR, compE, yesT, seqD, listC, tupC, numd, zipd, nxS, frSl, retSl, retSls, retOk, retOks, tryAsS, tryOnlyS, lookB, kinE, xfE, lookF, frzE, isTR, isTB, allC, blsD, gU, raiseIS, at0, at1, at2, at3, lrE, sortC, intC, intsD, slE, intO, eqXR, slX, addT, repT, inR, cmpO, heldR, appT, lrE, sortC, intC, intsD, slE, intO, eqXR, slX, addT, repT, compX, compDx, neYR, lrevE, inTR, strC, intTC, strE, splS, joiS, slZ, itC, inSR, strsD, repS, compZ, compDz, this]
      exact hr _ _ _ _ _
    match ps with
    | [x, y, m] =>
      have h3 : ∀ p ∈ [x, y, m], p.length ≤ 100000 := fun p hp' => by have := lq p hp'; simp at this; omega
      simp [sf__law_read_r4, cE, vE, bE, rE, fE, mE, bin, nilA, consA, bT, andT, orT, notT, tupE, lstE, allV, allM, okB, intR, addR, asL, asT, asD, eqR, eqD_nn, eqD_bb, eqD_ii, eqD_ss, eqD_tt, eqD_ll, eqD_bi, eqD_ib, eqD_nt, eqD_tn, eqD_it, eqD_ti, eqD_ni, eqD_in, eqDs_nn, eqDs_cc, eqDs_nc, eqDs_cn, cmpD, cmpDs, depD, depDs, isNon, isNR, chainE, tvE, andV, orV, notV, ifE, slEV, ixR, callV, lenC, isiC, tyN, pick, retEV, callP, argD, argDs, seqS, bkS, ctS, exprS, retS, retNS, ifS, evSl, setS, SK.loop, gN, gNil, gCons, gT, asgS, parS, defF, defK, raiseS, absC, divmodC, mmC, stL, itL, itT, itR1, itR2, itE, shL, itZ, itV, forS, evD, methL, appL, clrL, popL, insL, trL, extL, setixS, argS, argSs, callI, callN, hereA, nextA, negE, itS, wipeR, compE, yesT, seqD, listC, tupC, numd, zipd, nxS, frSl, retSl, retSls, retOk, retOks, tryAsS, tryOnlyS, lookB, kinE, xfE, lookF, frzE, isTR, isTB, allC, blsD, gU, raiseIS, at0, at1, at2, at3, lrE, sortC, intC, intsD, slE, intO, eqXR, slX, addT, repT, inR, cmpO, heldR, appT, lrE, sortC, intC, intsD, slE, intO, eqXR, slX, addT, repT, compX, compDx, neYR, lrevE, inTR, strC, intTC, strE, splS, joiS, slZ, itC, inSR, strsD, repS, compZ, compDz, s_blank]
      by_cases c : n = 12
      · rw [if_pos (show (n : Int) = 12 by omega)]
        have hr : ∀ r s2 s3 s4 s5, k.rt (.v (.int (n : Nat))) [.v z, r, s2, s3, s4, s5] := by
          cases e : bodyL l with
          | none => rw [e] at h; exact h
          | some b => rw [e] at h; dsimp only at h; rw [if_pos c] at h; exact h
        exact hr _ _ _ _ _
      · rw [if_neg (show ¬ (n : Int) = 12 by omega)]
        dsimp only at hb0
        refine rl_r3 (ps := []) x y m h3 ?_
        have on : bodyL l = none → ∀ r s2 s3 s4 s5, k.rt (.v (.int (n : Nat))) [.v z, r, s2, s3, s4, s5] := fun e => by rw [e] at h; exact h
        generalize fracL x = fx at *
        generalize fracL y = fy at *
        generalize wholeL m = fm at *
        cases fx with
        | none => intro r s; exact on hb0 _ _ _ _ _
        | some p =>
          cases fy with
          | none => intro r s; exact on hb0 _ _ _ _ _
          | some u =>
            cases fm with
            | none => intro r s; exact on hb0 _ _ _ _ _
            | some w =>
              dsimp only at hb0 ⊢
              by_cases cw : 1 ≤ w ∧ w ≤ 1000
              · rw [if_pos cw] at hb0 ⊢
                have sp := eo _ hb0
                rw [hb0] at h
                dsimp only at h
                rw [if_neg c] at h
                refine rl_r1 ha sp (by omega) ?_
                by_cases f : fitsL acc ⟨p, u, (w : Nat)⟩ = true
                · rw [if_pos f] at h ⊢
                  exact ih _ _ _ _ _ (fun c hc => by
                    rcases List.mem_append.mp hc with hc | hc
                    · exact ha c hc
                    · rw [List.mem_singleton.mp hc]; exact sp) (by simp; omega) (by omega) h
                · rw [if_neg f] at h ⊢
                  exact h _ _ _ _ _
              · rw [if_neg cw] at hb0 ⊢
                intro r s
                exact on hb0 _ _ _ _ _
    | [] => exact no (by rw [hb0] at h; exact h) (by simp)
    | [x] => exact no (by rw [hb0] at h; exact h) (by simp)
    | [x, y] => exact no (by rw [hb0] at h; exact h) (by simp)
    | x :: y :: m :: u :: r => exact no (by rw [hb0] at h; exact h) (by simp)
theorem to__law_read : ∀ ss K E, F__law_read ss K E → defF [false] 6 sf__law_read ss K E := fun ss K E h => by
  obtain ⟨l, rfl, hl0, h⟩ := h
  have hl : l.length + 2 ≤ sizeLine := by unfold sizeLine; omega
  have es : (PySem.Txt.split (S l) (S [10])).map D.str = (TL.spl [10] 0 [] l).map strL := splS_S (by decide)
  have el : (S l).length = l.length := SX.S_len l
  have el10 : (S [10]).length = 1 := SX.S_len _
  have lq := spl_part (s := [10]) l [] 0
  simp [sf__law_read, cE, vE, bE, rE, fE, mE, bin, nilA, consA, bT, andT, orT, notT, tupE, lstE, allV, allM, okB, intR, addR, asL, asT, asD, eqR, eqD_nn, eqD_bb, eqD_ii, eqD_ss, eqD_tt, eqD_ll, eqD_bi, eqD_ib, eqD_nt, eqD_tn, eqD_it, eqD_ti, eqD_ni, eqD_in, eqDs_nn, eqDs_cc, eqDs_nc, eqDs_cn, cmpD, cmpDs, depD, depDs, isNon, isNR, chainE, tvE, andV, orV, notV, ifE, slEV, ixR, callV, lenC, isiC, tyN, pick, retEV, callP, argD, argDs, seqS, bkS, ctS, exprS, retS, retNS, ifS, evSl, setS, SK.loop, gN, gNil, gCons, gT, asgS, parS, defF, defK, raiseS, absC, divmodC, mmC, stL, itL, itT, itR1, itR2, itE, shL, itZ, itV, forS, evD, methL, appL, clrL, popL, insL, trL, extL, setixS, argS, argSs, callI, callN, hereA, nextA, negE, itS, wipeR, compE, yesT, seqD, listC, tupC, numd, zipd, nxS, frSl, retSl, retSls, retOk, retOks, tryAsS, tryOnlyS, lookB, kinE, xfE, lookF, frzE, isTR, isTB, allC, blsD, gU, raiseIS, at0, at1, at2, at3, lrE, sortC, intC, intsD, slE, intO, eqXR, slX, addT, repT, inR, cmpO, heldR, appT, lrE, sortC, intC, intsD, slE, intO, eqXR, slX, addT, repT, compX, compDx, neYR, lrevE, inTR, strC, intTC, strE, splS, joiS, slZ, itC, inSR, strsD, repS, compZ, compDz, s_line]
  rw [es, el, el10]
  refine ⟨⟨by omega, hl⟩, ?_⟩
  refine rl_loop _ 0 [] _ _ _ _ (fun p hp => by have := lq p hp; simp at this; omega) (by simp) rfl (by omega) ?_
  unfold readL at h
  cases e : readGo 0 [] (TL.spl [10] 0 [] l) with
  | ok bs =>
    rw [e] at h
    intro s2 s3 s4 s5
    simp [sf__law_read_r5, cE, vE, bE, rE, fE, mE, bin, nilA, consA, bT, andT, orT, notT, tupE, lstE, allV, allM, okB, intR, addR, asL, asT, asD, eqR, eqD_nn, eqD_bb, eqD_ii, eqD_ss, eqD_tt, eqD_ll, eqD_bi, eqD_ib, eqD_nt, eqD_tn, eqD_it, eqD_ti, eqD_ni, eqD_in, eqDs_nn, eqDs_cc, eqDs_nc, eqDs_cn, cmpD, cmpDs, depD, depDs, isNon, isNR, chainE, tvE, andV, orV, notV, ifE, slEV, ixR, callV, lenC, isiC, tyN, pick, retEV, callP, argD, argDs, seqS, bkS, ctS, exprS, retS, retNS, ifS, evSl, setS, SK.loop, gN, gNil, gCons, gT, asgS, parS, defF, defK, raiseS, absC, divmodC, mmC, stL, itL, itT, itR1, itR2, itE, shL, itZ, itV, forS, evD, methL, appL, clrL, popL, insL, trL, extL, setixS, argS, argSs, callI, callN, hereA, nextA, negE, itS, wipeR, compE, compD, yesT, seqD, listC, tupC, numd, zipd, nxS, frSl, retSl, retSls, retOk, retOks, tryAsS, tryOnlyS, lookB, kinE, xfE, lookF, frzE, isTR, isTB, allC, blsD, gU, raiseIS, at0, at1, at2, at3, lrE, sortC, intC, intsD, slE, intO, cutD, eqXR, slX, addT, repT, inR, cmpO, heldR, appT, lrE, sortC, intC, intsD, slE, intO, cutD, eqXR, slX, addT, repT, compX, compDx, neYR, lrevE, inTR, strC, intTC, strE, splS, joiS, slZ, itC, inSR, strsD, repS, compZ, compDz]
    exact ⟨ret_ws bs, h⟩
  | error m =>
    rw [e] at h
    intro r s2 s3 s4 s5
    simp [cE, vE, bE, rE, fE, mE, bin, nilA, consA, bT, andT, orT, notT, tupE, lstE, allV, allM, okB, intR, addR, asL, asT, asD, eqR, eqD_nn, eqD_bb, eqD_ii, eqD_ss, eqD_tt, eqD_ll, eqD_bi, eqD_ib, eqD_nt, eqD_tn, eqD_it, eqD_ti, eqD_ni, eqD_in, eqDs_nn, eqDs_cc, eqDs_nc, eqDs_cn, cmpD, cmpDs, depD, depDs, isNon, isNR, chainE, tvE, andV, orV, notV, ifE, slEV, ixR, callV, lenC, isiC, tyN, pick, retEV, callP, argD, argDs, seqS, bkS, ctS, exprS, retS, retNS, ifS, evSl, setS, SK.loop, gN, gNil, gCons, gT, asgS, parS, defF, defK, raiseS, absC, divmodC, mmC, stL, itL, itT, itR1, itR2, itE, shL, itZ, itV, forS, evD, methL, appL, clrL, popL, insL, trL, extL, setixS, argS, argSs, callI, callN, hereA, nextA, negE, itS, wipeR, compE, compD, yesT, seqD, listC, tupC, numd, zipd, nxS, frSl, retSl, retSls, retOk, retOks, tryAsS, tryOnlyS, lookB, kinE, xfE, lookF, frzE, isTR, isTB, allC, blsD, gU, raiseIS, at0, at1, at2, at3, lrE, sortC, intC, intsD, slE, intO, cutD, eqXR, slX, addT, repT, inR, cmpO, heldR, appT, lrE, sortC, intC, intsD, slE, intO, cutD, eqXR, slX, addT, repT, compX, compDx, neYR, lrevE, inTR, strC, intTC, strE, splS, joiS, slZ, itC, inSR, strsD, repS, compZ, compDz]
    exact h
end VS
set_option Elab.async false
set_option linter.all false
set_option maxRecDepth 100000
set_option maxHeartbeats 4000000
/-! VM141: the law k06's texts, turned; what is told. Own work. -/
namespace VS
open PySem PySem.Spec PyProof.Rows
open L2 (V Hp Cx WX)
open SX (S)
def F__law_bent : FS := fun ss K _ => ∃ (n : Int) (l : List Nat), ss = [.l [.int n], .v (strL l)] ∧ l.length ≤ 50000 ∧ ∀ (l' : List Nat) (n' : Int), l'.length ≤ l.length + 1 → K (.v (strL l')) [.l [.int n']]
theorem m__law_bent : MonoF F__law_bent := fun ss K K' E E' hk he ⟨n, l, h1, h2, h3⟩ => ⟨n, l, h1, h2, fun a b c => hk _ _ (h3 a b c)⟩
structure LnOk (ls : List (List Nat)) : Prop where
  ne : ls ≠ []
  le : ls.length ≤ 5
  w3 : ∀ l ∈ ls, (TL.spl [32] 0 [] l).length = 3
  sm : ∀ l ∈ ls, l.length ≤ 4000
def F__law_worded : FS := fun ss K _ => ∃ (n : Int) (st : Bool) (ls : List (List Nat)), ss = [.l [.int n], .v (.lst st (ls.map strL))] ∧ LnOk ls ∧ ∀ (ls' : List (List Nat)) (n' : Int), ls'.length = ls.length → (∀ l ∈ ls', l.length ≤ 13000) → K (.m (.l (ls'.map strL))) [.l [.int n']]
theorem m__law_worded : MonoF F__law_worded := fun ss K K' E E' hk he ⟨n, st, l, h1, h2, h3⟩ => ⟨n, st, l, h1, h2, fun a b c d => hk _ _ (h3 a b c d)⟩
def F__law_turned : FS := fun ss K _ => ∃ (n : Int) (st : Bool) (bs : List Bw), ss = [.l [.int n], .v (.lst st (bs.map wD))] ∧ (bs ≠ [] ∧ bs.length ≤ 5 ∧ ∀ b ∈ bs, WkT b) ∧ ∀ (l : List Nat) (n' : Int), l.length ≤ 100000 → K (.v (strL l)) [.l [.int n']]
theorem m__law_turned : MonoF F__law_turned := fun ss K K' E E' hk he ⟨n, st, l, h1, h2, h3⟩ => ⟨n, st, l, h1, h2, fun a b c => hk _ _ (h3 a b c)⟩
def F__law_told : FS := fun ss K E => ∃ d, ss = [.v d] ∧ ((noStr d = true ∧ K (.v (.int 0)) []) ∨ ∃ l, d = strL l ∧ l.length ≤ 100000 ∧ match readL l with
  | .ok bs => K (.v (.lst true (bs.map wD))) []
  | .error n => K (.v (.int (n : Nat))) [])
theorem m__law_told : MonoF F__law_told := fun ss K K' E E' hk he ⟨d, h1, h⟩ => ⟨d, h1, by
  rcases h with ⟨h2, h3⟩ | ⟨l, h2, h3, h4⟩
  · exact .inl ⟨h2, hk _ _ h3⟩
  · refine .inr ⟨l, h2, h3, ?_⟩
    split at h4
    · exact hk _ _ h4
    · exact hk _ _ h4⟩
def sf__law_bent_r1 : SS := (retS (bin true (bin true (slZ (vE 1) none (some (vE 2))) (vE 3) addR) (slZ (vE 1) (some (bin true (vE 2) (cE (.int 1)) addR)) none) addR))
def sf__law_bent_r2 : SS := (seqS (ifS (bT (bin true (vE 4) (cE (.int 1)) (eqR false))) (retS (bin true (slZ (vE 1) none (some (vE 2))) (slZ (vE 1) (some (bin true (vE 2) (cE (.int 1)) addR)) none) addR)) nxS)
  sf__law_bent_r1)
def sf__law_bent_r3 : SS := (seqS (ifS (bT (bin true (vE 4) (cE (.int 0)) (eqR false))) (retS (bin true (bin true (slZ (vE 1) none (some (vE 2))) (vE 3) addR) (slZ (vE 1) (some (vE 2)) none) addR)) nxS)
  sf__law_bent_r2)
def sf__law_bent : SS := (seqS (setS 2 true (callI F__law_take 0 (hereA 0 (consA true (bin true (callV lenC (consA true (vE 1) nilA)) (cE (.int 1)) addR) nilA))))
  (seqS (setS 3 true (bin false (cE (.str "0123456789-/ \nax.1/0 ")) (callI F__law_take 0 (hereA 0 (consA true (cE (.int 21)) nilA))) ixR))
  (seqS (setS 4 true (callI F__law_take 0 (hereA 0 (consA true (cE (.int 3)) nilA))))
  sf__law_bent_r3)))
def sf__law_worded_r1 : SS := (retS (bin true (bin true (slX (vE 1) none (some (vE 3))) (lstE (consA true (strE (cE (.str " ")) (rE 4) joiS) nilA)) addR) (slX (vE 1) (some (bin true (vE 3) (cE (.int 1)) addR)) none) addR))
def sf__law_worded_r2 : SS := (seqS (setixS false 4 (bin false (vE 2) (callI F__law_take 0 (hereA 0 (consA true (cE (.int 16)) nilA))) ixR) (callI F__law_take 0 (hereA 0 (consA true (cE (.int 3)) nilA))))
  sf__law_worded_r1)
def sf__law_worded_r3 : SS := (seqS (setS 4 false (strE (bin true (vE 1) (vE 3) ixR) (cE (.str " ")) splS))
  sf__law_worded_r2)
def sf__law_worded_r4 : SS := (seqS (setS 3 true (callI F__law_take 0 (hereA 0 (consA true (callV lenC (consA true (vE 1) nilA)) nilA))))
  sf__law_worded_r3)
def sf__law_worded : SS := (seqS (setS 2 true (lstE (consA true (cE (.str "")) (consA true (cE (.str "0")) (consA true (cE (.str "00")) (consA true (cE (.str "-0")) (consA true (cE (.str "1/1")) (consA true (cE (.str "2/4")) (consA true (cE (.str "1/0")) (consA true (cE (.str "0/1")) (consA true (cE (.str "-")) (consA true (cE (.str "/2")) (consA true (cE (.str "1/")) (consA true (cE (.str "--1")) (consA true (cE (.str "1001")) (consA true (cE (.str "1e3")) (consA true (cE (.str "01")) (consA true (bin true (cE (.str "9")) (cE (.int 101)) repS) nilA))))))))))))))))))
  sf__law_worded_r4)
def sf__law_turned_r1 : SS := (retS (vE 2))
def sf__law_turned_r2 : SS := (seqS (ifS (bT (bin true (vE 4) (cE (.int 6)) (eqR false))) (retS (bin true (vE 2) (strE (cE (.str "")) (compE [6] (itR1 (consA true (bin true (cE (.int 13)) (callV lenC (consA true (vE 3) nilA)) (intR (fun _ _ => True) fun i j => .int (i - j))) nilA)) (gN 6 true) yesT (bin true (bin true (cE (.str "\n")) (callV strC (consA true (bin true (cE (.int 200)) (vE 6) addR) nilA)) addR) (cE (.str " 0 1")) addR)) joiS) addR)) nxS)
  sf__law_turned_r1)
def sf__law_turned_r3 : SS := (seqS (ifS (bT (bin true (vE 4) (cE (.int 5)) (eqR false))) (retS (strE (cE (.str "\n")) (bin true (slX (vE 3) (some (cE (.int 1))) none) (slX (vE 3) none (some (cE (.int 1)))) addR) joiS)) nxS)
  sf__law_turned_r2)
def sf__law_turned_r4 : SS := (seqS (ifS (bT (bin true (vE 4) (cE (.int 4)) (eqR false))) (seqS (setS 5 true (callI F__law_take 0 (hereA 0 (consA true (callV lenC (consA true (vE 3) nilA)) nilA))))
  (retS (strE (cE (.str "\n")) (bin true (bin true (slX (vE 3) none (some (vE 5))) (lstE (consA true (bin true (vE 3) (vE 5) ixR) nilA)) addR) (slX (vE 3) (some (vE 5)) none) addR) joiS))) nxS)
  sf__law_turned_r3)
def sf__law_turned_r5 : SS := (seqS (ifS (bT (bin true (vE 4) (cE (.int 3)) (eqR false))) (retS (strE (cE (.str "\n")) (callI F__law_worded 0 (hereA 0 (consA true (vE 3) nilA))) joiS)) nxS)
  sf__law_turned_r4)
def sf__law_turned_r6 : SS := (seqS (ifS (bT (bin true (vE 4) (cE (.int 3)) ltR)) (retS (callI F__law_bent 0 (hereA 0 (consA true (vE 2) nilA)))) nxS)
  sf__law_turned_r5)
def sf__law_turned : SS := (seqS (setS 2 true (callP F__law_text [] (consA true (vE 1) nilA)))
  (seqS (setS 3 true (strE (vE 2) (cE (.str "\n")) splS))
  (seqS (setS 4 true (callI F__law_take 0 (hereA 0 (consA true (cE (.int 8)) nilA))))
  sf__law_turned_r6)))
def sf__law_told : SS := (seqS (tryAsS [("NoText", true)] 2 (setS 1 true (callP F_read_world [] (consA true (vE 0) nilA))) (fun x => (seqS (ifS (orT (bT (kinE [("NoText", false)] x)) (notT (bT (kinE [("NoText", true)] x)))) (retS (cE .non)) nxS)
  (seqS (ifS (bT (kinE [("NoText", true)] x)) (retS (xfE "NoText" "line" x)) nxS)
  (retS (cE .non))))))
  (retS (vE 1)))
theorem s_signs : (Str.ofString "0123456789-/ \nax.1/0 ") = S [48, 49, 50, 51, 52, 53, 54, 55, 56, 57, 45, 47, 32, 10, 97, 120, 46, 49, 47, 48, 32] := by decide +kernel
theorem at_some {α : Type} {xs : List α} {d : Int} (h0 : 0 ≤ d) (h1 : d < xs.length) : ∃ c, L2.atI xs d = some c := by
  obtain ⟨k, rfl⟩ : ∃ k : Nat, d = (k : Int) := ⟨d.toNat, by omega⟩
  exact ⟨xs[k]'(by omega), atN (List.getElem?_eq_getElem _)⟩
theorem to__law_bent : ∀ ss K E, F__law_bent ss K E → defF [true, false] 5 sf__law_bent ss K E := fun ss K E h => by
  obtain ⟨n, l, rfl, hl, h⟩ := h
  have el : (S l).length = l.length := SX.S_len l
  have sz : (100000 : Nat) ≤ sizeLine := by decide
  simp [sf__law_bent, cE, vE, bE, rE, fE, mE, bin, nilA, consA, bT, andT, orT, notT, tupE, lstE, allV, allM, okB, intR, addR, asL, asT, asD, eqR, eqD_nn, eqD_bb, eqD_ii, eqD_ss, eqD_tt, eqD_ll, eqD_bi, eqD_ib, eqD_nt, eqD_tn, eqD_it, eqD_ti, eqD_ni, eqD_in, eqDs_nn, eqDs_cc, eqDs_nc, eqDs_cn, cmpD, cmpDs, depD, depDs, isNon, isNR, chainE, tvE, andV, orV, notV, ifE, slEV, ixR, callV, lenC, isiC, tyN, pick, retEV, callP, argD, argDs, seqS, bkS, ctS, exprS, retS, retNS, ifS, evSl, setS, SK.loop, gN, gNil, gCons, gT, asgS, parS, defF, defK, raiseS, absC, divmodC, mmC, stL, itL, itT, itR1, itR2, itE, shL, itZ, itV, forS, evD, methL, appL, clrL, popL, insL, trL, extL, setixS, argS, argSs, callI, callN, hereA, nextA, negE, itS, wipeR, compE, yesT, seqD, listC, tupC, numd, zipd, nxS, frSl, retSl, retSls, retOk, retOks, tryAsS, tryOnlyS, lookB, kinE, xfE, lookF, frzE, isTR, isTB, allC, blsD, gU, raiseIS, at0, at1, at2, at3, lrE, sortC, intC, intsD, slE, intO, eqXR, slX, addT, repT, inR, cmpO, heldR, appT, lrE, sortC, intC, intsD, slE, intO, eqXR, slX, addT, repT, compX, compDx, neYR, lrevE, inTR, strC, intTC, strE, splS, joiS, slZ, itC, inSR, strsD, repS, compZ, compDz, F__law_take, s_signs]
  rw [el]
  refine ⟨by omega, (by unfold Si; exact Nat.lt_of_le_of_lt (by omega : ((l.length : Int) + 1).natAbs ≤ 50001) (by decide +kernel)), fun w w0 w1 => ⟨(by unfold Si; decide +kernel), fun d d0 d1 => ?_⟩⟩
  obtain ⟨w, rfl⟩ : ∃ k : Nat, w = (k : Int) := ⟨w.toNat, by omega⟩
  obtain ⟨c, ec⟩ := at_some (xs := [48, 49, 50, 51, 52, 53, 54, 55, 56, 57, 45, 47, 32, 10, 97, 120, 46, 49, 47, 48, 32]) d0 d1
  rw [ec]
  refine ⟨by decide +kernel, (by unfold Si; decide +kernel), fun y n3 y0 y1 => ?_⟩
  have c1 : L2.cutS (S l) none (some (w : Int)) = S (l.take w) := cutT_to (by omega)
  have c2 : L2.cutS (S l) (some (w : Int)) none = S (l.drop w) := cutT_from (by omega)
  have c3 : L2.cutS (S l) (some ((w : Int) + 1)) none = S (l.drop (w + 1)) := cutT_from (i := (w : Int) + 1) (by omega)
  have l1 : (l.take w).length ≤ l.length := by rw [List.length_take]; omega
  have l2 : (l.take w).length + (l.drop w).length = l.length := by rw [← List.length_append, List.take_append_drop]
  have l3 : (l.drop (w + 1)).length ≤ (l.drop w).length := by rw [List.length_drop, List.length_drop]; omega
  have k0 := h (l.take w ++ [c] ++ l.drop w) n3 (by simp only [List.length_append, List.length_singleton]; omega)
  have k1 := h (l.take w ++ l.drop (w + 1)) n3 (by simp only [List.length_append]; omega)
  have k2 := h (l.take w ++ [c] ++ l.drop (w + 1)) n3 (by simp only [List.length_append, List.length_singleton]; omega)
  by_cases h0 : y = 0
  · simp [sf__law_bent_r3, cE, vE, bE, rE, fE, mE, bin, nilA, consA, bT, andT, orT, notT, tupE, lstE, allV, allM, okB, intR, addR, asL, asT, asD, eqR, eqD_nn, eqD_bb, eqD_ii, eqD_ss, eqD_tt, eqD_ll, eqD_bi, eqD_ib, eqD_nt, eqD_tn, eqD_it, eqD_ti, eqD_ni, eqD_in, eqDs_nn, eqDs_cc, eqDs_nc, eqDs_cn, cmpD, cmpDs, depD, depDs, isNon, isNR, chainE, tvE, andV, orV, notV, ifE, slEV, ixR, callV, lenC, isiC, tyN, pick, retEV, callP, argD, argDs, seqS, bkS, ctS, exprS, retS, retNS, ifS, evSl, setS, SK.loop, gN, gNil, gCons, gT, asgS, parS, defF, defK, raiseS, absC, divmodC, mmC, stL, itL, itT, itR1, itR2, itE, shL, itZ, itV, forS, evD, methL, appL, clrL, popL, insL, trL, extL, setixS, argS, argSs, callI, callN, hereA, nextA, negE, itS, wipeR, compE, yesT, seqD, listC, tupC, numd, zipd, nxS, frSl, retSl, retSls, retOk, retOks, tryAsS, tryOnlyS, lookB, kinE, xfE, lookF, frzE, isTR, isTB, allC, blsD, gU, raiseIS, at0, at1, at2, at3, lrE, sortC, intC, intsD, slE, intO, eqXR, slX, addT, repT, inR, cmpO, heldR, appT, lrE, sortC, intC, intsD, slE, intO, eqXR, slX, addT, repT, compX, compDx, neYR, lrevE, inTR, strC, intTC, strE, splS, joiS, slZ, itC, inSR, strsD, repS, compZ, compDz, h0, c1, c2]
    simp only [SX.S_cat]
    simp only [SX.S_len, List.length_append, List.length_singleton]
    exact ⟨by omega, by omega, by omega, by omega, k0⟩
  · simp [sf__law_bent_r3, cE, vE, bE, rE, fE, mE, bin, nilA, consA, bT, andT, orT, notT, tupE, lstE, allV, allM, okB, intR, addR, asL, asT, asD, eqR, eqD_nn, eqD_bb, eqD_ii, eqD_ss, eqD_tt, eqD_ll, eqD_bi, eqD_ib, eqD_nt, eqD_tn, eqD_it, eqD_ti, eqD_ni, eqD_in, eqDs_nn, eqDs_cc, eqDs_nc, eqDs_cn, cmpD, cmpDs, depD, depDs, isNon, isNR, chainE, tvE, andV, orV, notV, ifE, slEV, ixR, callV, lenC, isiC, tyN, pick, retEV, callP, argD, argDs, seqS, bkS, ctS, exprS, retS, retNS, ifS, evSl, setS, SK.loop, gN, gNil, gCons, gT, asgS, parS, defF, defK, raiseS, absC, divmodC, mmC, stL, itL, itT, itR1, itR2, itE, shL, itZ, itV, forS, evD, methL, appL, clrL, popL, insL, trL, extL, setixS, argS, argSs, callI, callN, hereA, nextA, negE, itS, wipeR, compE, yesT, seqD, listC, tupC, numd, zipd, nxS, frSl, retSl, retSls, retOk, retOks, tryAsS, tryOnlyS, lookB, kinE, xfE, lookF, frzE, isTR, isTB, allC, blsD, gU, raiseIS, at0, at1, at2, at3, lrE, sortC, intC, intsD, slE, intO, eqXR, slX, addT, repT, inR, cmpO, heldR, appT, lrE, sortC, intC, intsD, slE, intO, eqXR, slX, addT, repT, compX, compDx, neYR, lrevE, inTR, strC, intTC, strE, splS, joiS, slZ, itC, inSR, strsD, repS, compZ, compDz, h0]
    by_cases h1 : y = 1
    · simp [sf__law_bent_r2, cE, vE, bE, rE, fE, mE, bin, nilA, consA, bT, andT, orT, notT, tupE, lstE, allV, allM, okB, intR, addR, asL, asT, asD, eqR, eqD_nn, eqD_bb, eqD_ii, eqD_ss, eqD_tt, eqD_ll, eqD_bi, eqD_ib, eqD_nt, eqD_tn, eqD_it, eqD_ti, eqD_ni, eqD_in, eqDs_nn, eqDs_cc, eqDs_nc, eqDs_cn, cmpD, cmpDs, depD, depDs, isNon, isNR, chainE, tvE, andV, orV, notV, ifE, slEV, ixR, callV, lenC, isiC, tyN, pick, retEV, callP, argD, argDs, seqS, bkS, ctS, exprS, retS, retNS, ifS, evSl, setS, SK.loop, gN, gNil, gCons, gT, asgS, parS, defF, defK, raiseS, absC, divmodC, mmC, stL, itL, itT, itR1, itR2, itE, shL, itZ, itV, forS, evD, methL, appL, clrL, popL, insL, trL, extL, setixS, argS, argSs, callI, callN, hereA, nextA, negE, itS, wipeR, compE, yesT, seqD, listC, tupC, numd, zipd, nxS, frSl, retSl, retSls, retOk, retOks, tryAsS, tryOnlyS, lookB, kinE, xfE, lookF, frzE, isTR, isTB, allC, blsD, gU, raiseIS, at0, at1, at2, at3, lrE, sortC, intC, intsD, slE, intO, eqXR, slX, addT, repT, inR, cmpO, heldR, appT, lrE, sortC, intC, intsD, slE, intO, eqXR, slX, addT, repT, compX, compDx, neYR, lrevE, inTR, strC, intTC, strE, splS, joiS, slZ, itC, inSR, strsD, repS, compZ, compDz, h1, c1, c3]
      simp only [SX.S_cat]
      simp only [SX.S_len, List.length_append, List.length_singleton]
      exact ⟨by omega, by omega, k1⟩
    · simp [sf__law_bent_r2, sf__law_bent_r1, cE, vE, bE, rE, fE, mE, bin, nilA, consA, bT, andT, orT, notT, tupE, lstE, allV, allM, okB, intR, addR, asL, asT, asD, eqR, eqD_nn, eqD_bb, eqD_ii, eqD_ss, eqD_tt, eqD_ll, eqD_bi, eqD_ib, eqD_nt, eqD_tn, eqD_it, eqD_ti, eqD_ni, eqD_in, eqDs_nn, eqDs_cc, eqDs_nc, eqDs_cn, cmpD, cmpDs, depD, depDs, isNon, isNR, chainE, tvE, andV, orV, notV, ifE, slEV, ixR, callV, lenC, isiC, tyN, pick, retEV, callP, argD, argDs, seqS, bkS, ctS, exprS, retS, retNS, ifS, evSl, setS, SK.loop, gN, gNil, gCons, gT, asgS, parS, defF, defK, raiseS, absC, divmodC, mmC, stL, itL, itT, itR1, itR2, itE, shL, itZ, itV, forS, evD, methL, appL, clrL, popL, insL, trL, extL, setixS, argS, argSs, callI, callN, hereA, nextA, negE, itS, wipeR, compE, yesT, seqD, listC, tupC, numd, zipd, nxS, frSl, retSl, retSls, retOk, retOks, tryAsS, tryOnlyS, lookB, kinE, xfE, lookF, frzE, isTR, isTB, allC, blsD, gU, raiseIS, at0, at1, at2, at3, lrE, sortC, intC, intsD, slE, intO, eqXR, slX, addT, repT, inR, cmpO, heldR, appT, lrE, sortC, intC, intsD, slE, intO, eqXR, slX, addT, repT, compX, compDx, neYR, lrevE, inTR, strC, intTC, strE, splS, joiS, slZ, itC, inSR, strsD, repS, compZ, compDz, h1, c1, c3]
      simp only [SX.S_cat]
      simp only [SX.S_len, List.length_append, List.length_singleton]
      exact ⟨by omega, by omega, by omega, by omega, k2⟩
theorem ret_strs : ∀ ls : List (List Nat), retOks (ls.map strL) = true
  | [] => rfl
  | l :: ls => by
    rw [List.map_cons]
    show (retOk (strL l) && retOks _) = true
    rw [ret_strs ls]
    rfl
theorem ret_strs1 (a c : List (List Nat)) (l : List Nat) : retOks (a.map strL ++ strL l :: c.map strL) = true := by
  have := ret_strs (a ++ l :: c)
  simpa using this
theorem wo_r1 {a c : List (List Nat)} {l x y z : List Nat} {ods : List D} {n3 : Int} {st : Bool} {k : SK} (hx : x.length ≤ 4000 ∧ y.length ≤ 4000) (hz : z.length ≤ 4000) (hl : a.length + c.length ≤ 10)
    (h : k.rt (.m (.l (a.map strL ++ strL (TL.joinL [32] [x, y, z]) :: c.map strL))) [.l [.int n3], .v (.lst st (a.map strL ++ strL l :: c.map strL)), .v (.lst true ods), .v (.int (a.length : Nat)), .l [strL x, strL y, strL z]]) :
    sf__law_worded_r1 [.l [.int n3], .v (.lst st (a.map strL ++ strL l :: c.map strL)), .v (.lst true ods), .v (.int (a.length : Nat)), .l [strL x, strL y, strL z]] k := by
  have ea := cut_a5 (a.map strL) (c.map strL) (strL l)
  have ec := cut_c5 (a.map strL) (c.map strL) (strL l)
  rw [List.length_map] at ea ec
  have jj : PySem.Txt.join (S [32]) [S x, S y, S z] = S (TL.joinL [32] [x, y, z]) := SX.join_S [32] [x, y, z]
  have e1 := SX.S_len x
  have e2 := SX.S_len y
  have e3 := SX.S_len z
  have e4 := SX.S_len [32]
  simp [sf__law_worded_r1, cE, vE, bE, rE, fE, mE, bin, nilA, consA, bT, andT, orT, notT, tupE, lstE, allV, allM, okB, intR, addR, asL, asT, asD, eqR, eqD_nn, eqD_bb, eqD_ii, eqD_ss, eqD_tt, eqD_ll, eqD_bi, eqD_ib, eqD_nt, eqD_tn, eqD_it, eqD_ti, eqD_ni, eqD_in, eqDs_nn, eqDs_cc, eqDs_nc, eqDs_cn, cmpD, cmpDs, depD, depDs, isNon, isNR, chainE, tvE, andV, orV, notV, ifE, slEV, ixR, callV, lenC, isiC, tyN, pick, retEV, callP, argD, argDs, seqS, bkS, ctS, exprS, retS, retNS, ifS, evSl, setS, SK.loop, gN, gNil, gCons, gT, asgS, parS, defF, defK, raiseS, absC, divmodC, mmC, stL, itL, itT, itR1, itR2, itE, shL, itZ, itV, forS, evD, methL, appL, clrL, popL, insL, trL, extL, setixS, argS, argSs, callI, callN, hereA, nextA, negE, itS, wipeR, compE, yesT, seqD, listC, tupC, numd, zipd, nxS, frSl, retSl, retSls, retOk, retOks, tryAsS, tryOnlyS, lookB, kinE, xfE, lookF, frzE, isTR, isTB, allC, blsD, gU, raiseIS, at0, at1, at2, at3, lrE, sortC, intC, intsD, slE, intO, eqXR, slX, addT, repT, inR, cmpO, heldR, appT, lrE, sortC, intC, intsD, slE, intO, eqXR, slX, addT, repT, compX, compDx, neYR, lrevE, inTR, strC, intTC, strE, splS, joiS, slZ, itC, inSR, strsD, repS, compZ, compDz, s_blank, ea, ec, jj]
  rw [e1, e2, e3, e4]
  simp only [List.length_singleton]
  exact ⟨by omega, by omega, by omega, h⟩
theorem to__law_worded : ∀ ss K E, F__law_worded ss K E → defF [true, false] 5 sf__law_worded ss K E := fun ss K E h => by
  obtain ⟨n, st, ls, rfl, ok, h⟩ := h
  have le := ok.le
  have hn : 0 < ls.length := List.length_pos_iff.mpr ok.ne
  have s9 : Str.ofString "9" = S [57] := by decide +kernel
  simp [sf__law_worded, cE, vE, bE, rE, fE, mE, bin, nilA, consA, bT, andT, orT, notT, tupE, lstE, allV, allM, okB, intR, addR, asL, asT, asD, eqR, eqD_nn, eqD_bb, eqD_ii, eqD_ss, eqD_tt, eqD_ll, eqD_bi, eqD_ib, eqD_nt, eqD_tn, eqD_it, eqD_ti, eqD_ni, eqD_in, eqDs_nn, eqDs_cc, eqDs_nc, eqDs_cn, cmpD, cmpDs, depD, depDs, isNon, isNR, chainE, tvE, andV, orV, notV, ifE, slEV, ixR, callV, lenC, isiC, tyN, pick, retEV, callP, argD, argDs, seqS, bkS, ctS, exprS, retS, retNS, ifS, evSl, setS, SK.loop, gN, gNil, gCons, gT, asgS, parS, defF, defK, raiseS, absC, divmodC, mmC, stL, itL, itT, itR1, itR2, itE, shL, itZ, itV, forS, evD, methL, appL, clrL, popL, insL, trL, extL, setixS, argS, argSs, callI, callN, hereA, nextA, negE, itS, wipeR, compE, yesT, seqD, listC, tupC, numd, zipd, nxS, frSl, retSl, retSls, retOk, retOks, tryAsS, tryOnlyS, lookB, kinE, xfE, lookF, frzE, isTR, isTB, allC, blsD, gU, raiseIS, at0, at1, at2, at3, lrE, sortC, intC, intsD, slE, intO, eqXR, slX, addT, repT, inR, cmpO, heldR, appT, lrE, sortC, intC, intsD, slE, intO, eqXR, slX, addT, repT, compX, compDx, neYR, lrevE, inTR, strC, intTC, strE, splS, joiS, slZ, itC, inSR, strsD, repS, compZ, compDz, s9]
  refine ⟨by decide +kernel, ?_⟩
  have od : ∀ d : Int, 0 ≤ d → d < 16 → ∃ o : List Nat, L2.atI [D.str (Str.ofString ""), D.str (Str.ofString "0"), D.str (Str.ofString "00"), D.str (Str.ofString "-0"), D.str (Str.ofString "1/1"), D.str (Str.ofString "2/4"), D.str (Str.ofString "1/0"), D.str (Str.ofString "0/1"), D.str (Str.ofString "-"), D.str (Str.ofString "/2"), D.str (Str.ofString "1/"), D.str (Str.ofString "--1"), D.str (Str.ofString "1001"), D.str (Str.ofString "1e3"), D.str (Str.ofString "01"), D.str (strRep (S [57]) 101)] d = some (strL o) ∧ o.length ≤ 101 := fun d d0 d1 => by
    have : d = 0 ∨ d = 1 ∨ d = 2 ∨ d = 3 ∨ d = 4 ∨ d = 5 ∨ d = 6 ∨ d = 7 ∨ d = 8 ∨ d = 9 ∨ d = 10 ∨ d = 11 ∨ d = 12 ∨ d = 13 ∨ d = 14 ∨ d = 15 := by omega
    rcases this with rfl | rfl | rfl | rfl | rfl | rfl | rfl | rfl | rfl | rfl | rfl | rfl | rfl | rfl | rfl | rfl <;> exact ⟨_, rfl, by decide +kernel⟩
  generalize [D.str (Str.ofString ""), D.str (Str.ofString "0"), D.str (Str.ofString "00"), D.str (Str.ofString "-0"), D.str (Str.ofString "1/1"), D.str (Str.ofString "2/4"), D.str (Str.ofString "1/0"), D.str (Str.ofString "0/1"), D.str (Str.ofString "-"), D.str (Str.ofString "/2"), D.str (Str.ofString "1/"), D.str (Str.ofString "--1"), D.str (Str.ofString "1001"), D.str (Str.ofString "1e3"), D.str (Str.ofString "01"), D.str (strRep (S [57]) 101)] = ods at *
  simp [sf__law_worded_r4, cE, vE, bE, rE, fE, mE, bin, nilA, consA, bT, andT, orT, notT, tupE, lstE, allV, allM, okB, intR, addR, asL, asT, asD, eqR, eqD_nn, eqD_bb, eqD_ii, eqD_ss, eqD_tt, eqD_ll, eqD_bi, eqD_ib, eqD_nt, eqD_tn, eqD_it, eqD_ti, eqD_ni, eqD_in, eqDs_nn, eqDs_cc, eqDs_nc, eqDs_cn, cmpD, cmpDs, depD, depDs, isNon, isNR, chainE, tvE, andV, orV, notV, ifE, slEV, ixR, callV, lenC, isiC, tyN, pick, retEV, callP, argD, argDs, seqS, bkS, ctS, exprS, retS, retNS, ifS, evSl, setS, SK.loop, gN, gNil, gCons, gT, asgS, parS, defF, defK, raiseS, absC, divmodC, mmC, stL, itL, itT, itR1, itR2, itE, shL, itZ, itV, forS, evD, methL, appL, clrL, popL, insL, trL, extL, setixS, argS, argSs, callI, callN, hereA, nextA, negE, itS, wipeR, compE, yesT, seqD, listC, tupC, numd, zipd, nxS, frSl, retSl, retSls, retOk, retOks, tryAsS, tryOnlyS, lookB, kinE, xfE, lookF, frzE, isTR, isTB, allC, blsD, gU, raiseIS, at0, at1, at2, at3, lrE, sortC, intC, intsD, slE, intO, eqXR, slX, addT, repT, inR, cmpO, heldR, appT, lrE, sortC, intC, intsD, slE, intO, eqXR, slX, addT, repT, compX, compDx, neYR, lrevE, inTR, strC, intTC, strE, splS, joiS, slZ, itC, inSR, strsD, repS, compZ, compDz, F__law_take]
  refine ⟨⟨hn, (by unfold Si; exact Nat.lt_of_le_of_lt (by omega : (ls.length : Int).natAbs ≤ 5) (by decide +kernel))⟩, fun w n1 w0 w1 => ?_⟩
  obtain ⟨a, l, c, rfl, ha⟩ : ∃ a l c, ls = a ++ l :: c ∧ a.length = w.toNat := ⟨ls.take w.toNat, ls[w.toNat]'(by omega), ls.drop (w.toNat + 1), by rw [← List.drop_eq_getElem_cons, List.take_append_drop], by rw [List.length_take]; omega⟩
  obtain ⟨w, rfl⟩ : ∃ k : Nat, w = (k : Int) := ⟨w.toNat, by omega⟩
  have ha : a.length = w := by omega
  subst ha
  have ml : l ∈ a ++ l :: c := by simp
  have l3 := ok.w3 l ml
  have lS := ok.sm l ml
  have el : L2.atI (a.map strL ++ strL l :: c.map strL) (a.length : Int) = some (strL l) := atN (xs := a.map strL ++ strL l :: c.map strL) (i := a.length) (x := strL l) (by simp)
  have ea := cut_a5 (a.map strL) (c.map strL) (strL l)
  have ec := cut_c5 (a.map strL) (c.map strL) (strL l)
  rw [List.length_map] at ea ec
  have es : (PySem.Txt.split (S l) (S [32])).map D.str = (TL.spl [32] 0 [] l).map strL := splS_S (by decide)
  have eS : (S l).length = l.length := SX.S_len l
  have el32 : (S [32]).length = 1 := SX.S_len _
  have sz : (100000 : Nat) ≤ sizeLine := by decide
  have lq := spl_part (s := [32]) l [] 0
  simp [sf__law_worded_r3, cE, vE, bE, rE, fE, mE, bin, nilA, consA, bT, andT, orT, notT, tupE, lstE, allV, allM, okB, intR, addR, asL, asT, asD, eqR, eqD_nn, eqD_bb, eqD_ii, eqD_ss, eqD_tt, eqD_ll, eqD_bi, eqD_ib, eqD_nt, eqD_tn, eqD_it, eqD_ti, eqD_ni, eqD_in, eqDs_nn, eqDs_cc, eqDs_nc, eqDs_cn, cmpD, cmpDs, depD, depDs, isNon, isNR, chainE, tvE, andV, orV, notV, ifE, slEV, ixR, callV, lenC, isiC, tyN, pick, retEV, callP, argD, argDs, seqS, bkS, ctS, exprS, retS, retNS, ifS, evSl, setS, SK.loop, gN, gNil, gCons, gT, asgS, parS, defF, defK, raiseS, absC, divmodC, mmC, stL, itL, itT, itR1, itR2, itE, shL, itZ, itV, forS, evD, methL, appL, clrL, popL, insL, trL, extL, setixS, argS, argSs, callI, callN, hereA, nextA, negE, itS, wipeR, compE, yesT, seqD, listC, tupC, numd, zipd, nxS, frSl, retSl, retSls, retOk, retOks, tryAsS, tryOnlyS, lookB, kinE, xfE, lookF, frzE, isTR, isTB, allC, blsD, gU, raiseIS, at0, at1, at2, at3, lrE, sortC, intC, intsD, slE, intO, eqXR, slX, addT, repT, inR, cmpO, heldR, appT, lrE, sortC, intC, intsD, slE, intO, eqXR, slX, addT, repT, compX, compDx, neYR, lrevE, inTR, strC, intTC, strE, splS, joiS, slZ, itC, inSR, strsD, repS, compZ, compDz, el, s_blank]
  rw [es, eS, el32]
  refine ⟨⟨by omega, by omega⟩, ?_⟩
  generalize TL.spl [32] 0 [] l = ps at *
  match ps, l3 with
  | [p, q, r], _ =>
    simp [sf__law_worded_r2, cE, vE, bE, rE, fE, mE, bin, nilA, consA, bT, andT, orT, notT, tupE, lstE, allV, allM, okB, intR, addR, asL, asT, asD, eqR, eqD_nn, eqD_bb, eqD_ii, eqD_ss, eqD_tt, eqD_ll, eqD_bi, eqD_ib, eqD_nt, eqD_tn, eqD_it, eqD_ti, eqD_ni, eqD_in, eqDs_nn, eqDs_cc, eqDs_nc, eqDs_cn, cmpD, cmpDs, depD, depDs, isNon, isNR, chainE, tvE, andV, orV, notV, ifE, slEV, ixR, callV, lenC, isiC, tyN, pick, retEV, callP, argD, argDs, seqS, bkS, ctS, exprS, retS, retNS, ifS, evSl, setS, SK.loop, gN, gNil, gCons, gT, asgS, parS, defF, defK, raiseS, absC, divmodC, mmC, stL, itL, itT, itR1, itR2, itE, shL, itZ, itV, forS, evD, methL, appL, clrL, popL, insL, trL, extL, setixS, argS, argSs, callI, callN, hereA, nextA, negE, itS, wipeR, compE, yesT, seqD, listC, tupC, numd, zipd, nxS, frSl, retSl, retSls, retOk, retOks, tryAsS, tryOnlyS, lookB, kinE, xfE, lookF, frzE, isTR, isTB, allC, blsD, gU, raiseIS, at0, at1, at2, at3, lrE, sortC, intC, intsD, slE, intO, eqXR, slX, addT, repT, inR, cmpO, heldR, appT, lrE, sortC, intC, intsD, slE, intO, eqXR, slX, addT, repT, compX, compDx, neYR, lrevE, inTR, strC, intTC, strE, splS, joiS, slZ, itC, inSR, strsD, repS, compZ, compDz, F__law_take]
    refine ⟨(by unfold Si; decide +kernel), fun d d0 d1 => ?_⟩
    obtain ⟨o, eo, lo⟩ := od d d0 d1
    rw [eo]
    refine ⟨(by unfold Si; decide +kernel), fun e n3 e0 e1 => ?_⟩
    have key : ∀ x y z : List Nat, x.length ≤ 4000 → y.length ≤ 4000 → z.length ≤ 4000 → ∀ n3, K (.m (.l (a.map strL ++ strL (TL.joinL [32] [x, y, z]) :: c.map strL))) [.l [.int n3]] := fun x y z hx hy hz n3 => by
      have := h (a ++ TL.joinL [32] [x, y, z] :: c) n3 (by simp) (fun u hu => by
        rcases List.mem_append.mp hu with hu | hu
        · have := ok.sm u (List.mem_append_left _ hu); omega
        · rcases List.mem_cons.mp hu with rfl | hu
          · simp [TL.joinL]; omega
          · have := ok.sm u (List.mem_append_right _ (List.mem_cons_of_mem _ hu)); omega)
      simpa using this
    have lp := lq p (by simp)
    have lq' := lq q (by simp)
    have lr := lq r (by simp)
    simp at lp lq' lr
    have fin : ∀ x y z : List Nat, x.length ≤ 4000 → y.length ≤ 4000 → z.length ≤ 4000 → ∀ k : SK, (∀ ds, retOks ds = true → K (.m (.l ds)) [.l [.int n3]] → k.rt (.m (.l ds)) [.l [.int n3], .v (.lst st (a.map strL ++ strL l :: c.map strL)), .v (.lst true ods), .v (.int (a.length : Nat)), .l [strL x, strL y, strL z]]) → sf__law_worded_r1 [.l [.int n3], .v (.lst st (a.map strL ++ strL l :: c.map strL)), .v (.lst true ods), .v (.int (a.length : Nat)), .l [strL x, strL y, strL z]] k := fun x y z hx hy hz k hk => by
      refine wo_r1 ⟨hx, hy⟩ hz (by simp at le; omega) ?_
      exact hk _ (ret_strs1 a c _) (key x y z hx hy hz n3)
    have : e = 0 ∨ e = 1 ∨ e = 2 := by omega
    rcases this with rfl | rfl | rfl
    · exact fin o q r (by omega) (by omega) (by omega) _ fun ds hr hk => by simp [pick, retSls, retSl, retOks, retOk]; exact ⟨hr, hk⟩
    · exact fin p o r (by omega) (by omega) (by omega) _ fun ds hr hk => by simp [pick, retSls, retSl, retOks, retOk]; exact ⟨hr, hk⟩
    · exact fin p q o (by omega) (by omega) (by omega) _ fun ds hr hk => by simp [pick, retSls, retSl, retOks, retOk]; exact ⟨hr, hk⟩
theorem to__law_told : ∀ ss K E, F__law_told ss K E → defF [false] 3 sf__law_told ss K E := fun ss K E h => by
  obtain ⟨d, rfl, h⟩ := h
  simp [sf__law_told, cE, vE, bE, rE, fE, mE, bin, nilA, consA, bT, andT, orT, notT, tupE, lstE, allV, allM, okB, intR, addR, asL, asT, asD, eqR, eqD_nn, eqD_bb, eqD_ii, eqD_ss, eqD_tt, eqD_ll, eqD_bi, eqD_ib, eqD_nt, eqD_tn, eqD_it, eqD_ti, eqD_ni, eqD_in, eqDs_nn, eqDs_cc, eqDs_nc, eqDs_cn, cmpD, cmpDs, depD, depDs, isNon, isNR, chainE, tvE, andV, orV, notV, ifE, slEV, ixR, callV, lenC, isiC, tyN, pick, retEV, callP, argD, argDs, seqS, bkS, ctS, exprS, retS, retNS, ifS, evSl, setS, SK.loop, gN, gNil, gCons, gT, asgS, parS, defF, defK, raiseS, absC, divmodC, mmC, stL, itL, itT, itR1, itR2, itE, shL, itZ, itV, forS, evD, methL, appL, clrL, popL, insL, trL, extL, setixS, argS, argSs, callI, callN, hereA, nextA, negE, itS, wipeR, compE, compD, yesT, seqD, listC, tupC, numd, zipd, nxS, frSl, retSl, retSls, retOk, retOks, tryAsS, tryOnlyS, lookB, kinE, xfE, lookF, frzE, isTR, isTB, allC, blsD, gU, raiseIS, at0, at1, at2, at3, lrE, sortC, intC, intsD, slE, intO, cutD, eqXR, slX, addT, repT, inR, cmpO, heldR, appT, lrE, sortC, intC, intsD, slE, intO, cutD, eqXR, slX, addT, repT, compX, compDx, neYR, lrevE, inTR, strC, intTC, strE, splS, joiS, slZ, itC, inSR, strsD, repS, compZ, compDz]
  have fin : ∀ n : Nat, K (.v (.int (n : Nat))) [] → (Str.ofString "NoText" = Str.ofString "NoText") := fun _ _ => rfl
  rcases h with ⟨h1, h⟩ | ⟨l, rfl, hl, h⟩
  · refine ⟨d, rfl, .inl ⟨h1, ?_⟩⟩
    simp [noText, lookF, retOk]
    exact h
  · refine ⟨_, rfl, .inr ⟨l, rfl, hl, ?_⟩⟩
    cases e : readL l with
    | ok bs =>
      rw [e] at h
      simp [frSl]
      exact ⟨ret_ws bs, h⟩
    | error n =>
      rw [e] at h
      simp [noText, lookF, retOk]
      exact h
theorem s_none : (Str.ofString "") = S [] := by decide +kernel
theorem s_tail : (Str.ofString " 0 1") = S [32, 48, 32, 49] := by decide +kernel
theorem cut_l5 (a c : List D) (b : D) : cutD (a ++ b :: c) (some (a.length : Int)) none = b :: c := by
  unfold cutD
  have e1 : HT.sIx (a ++ b :: c).length 0 (some (a.length : Int)) = a.length := by
    rw [HT.sIx_nat]; simp
  have e2 : HT.sIx (a ++ b :: c).length (a ++ b :: c).length none = (a ++ b :: c).length := rfl
  rw [e1, e2, List.drop_left]
  exact List.take_of_length_le (by simp; try omega)
theorem cut_h5 (x : D) (b : List D) : cutD (x :: b) none (some 1) = [x] := by
  have := cut_a5 [x] b
  unfold cutD
  have e1 : HT.sIx (x :: b).length 0 none = 0 := rfl
  have e2 : HT.sIx (x :: b).length (x :: b).length (some 1) = 1 := by
    rw [show (1 : Int) = ((1 : Nat) : Int) by rfl, HT.sIx_nat]; simp
  rw [e1, e2]
  all_goals rfl
theorem joinL_len6 (s : List Nat) : ∀ ls : List (List Nat), (TL.joinL s ls).length ≤ (ls.map List.length).sum + s.length * ls.length
  | [] => by simp [TL.joinL]
  | [p] => by simp [TL.joinL]
  | p :: q :: r => by
    have ih := joinL_len6 s (q :: r)
    show (p ++ (s ++ TL.joinL s (q :: r))).length ≤ _
    simp only [List.length_append, List.map_cons, List.sum_cons, List.length_cons, Nat.mul_add] at ih ⊢
    omega
theorem joinL_le {s : List Nat} {ls : List (List Nat)} {n : Nat} (h : ∀ l ∈ ls, l.length ≤ n) : (TL.joinL s ls).length ≤ n * ls.length + s.length * ls.length := by
  have := joinL_len6 s ls
  have e := sum_le (xs := ls.map List.length) (n := n) (fun x hx => by
    obtain ⟨y, hy, rfl⟩ := List.mem_map.mp hx
    exact h y hy)
  rw [List.length_map] at e
  omega
theorem sumS {ls : List (List Nat)} : ((ls.map S).map (fun x => x.length)).sum = (ls.map List.length).sum := by
  rw [List.map_map]
  exact congrArg List.sum (List.map_congr_left fun a _ => SX.S_len a)
theorem sum_ls {ls : List (List Nat)} {n : Nat} (h : ∀ l ∈ ls, l.length ≤ n) : (ls.map List.length).sum ≤ n * ls.length := by
  have e := sum_le (xs := ls.map List.length) (n := n) (fun x hx => by
    obtain ⟨y, hy, rfl⟩ := List.mem_map.mp hx
    exact h y hy)
  rwa [List.length_map] at e
section
variable {ls : List (List Nat)} {T : List Nat} {w : D} {y n1 : Int} {s5 s6 : Sl} {k : SK}
theorem tu_r1 (hT : T.length ≤ 30000) (h : ∀ (l : List Nat) (n' : Int) (s5 s6 : Sl), l.length ≤ 100000 → k.rt (.v (strL l)) [.l [.int n'], .v w, .v (strL T), .v (.lst true (ls.map strL)), .v (.int y), s5, s6]) :
    sf__law_turned_r1 [.l [.int n1], .v w, .v (strL T), .v (.lst true (ls.map strL)), .v (.int y), s5, s6] k := by
  simp [sf__law_turned_r1, cE, vE, bE, rE, fE, mE, bin, nilA, consA, bT, andT, orT, notT, tupE, lstE, allV, allM, okB, intR, addR, asL, asT, asD, eqR, eqD_nn, eqD_bb, eqD_ii, eqD_ss, eqD_tt, eqD_ll, eqD_bi, eqD_ib, eqD_nt, eqD_tn, eqD_it, eqD_ti, eqD_ni, eqD_in, eqDs_nn, eqDs_cc, eqDs_nc, eqDs_cn, cmpD, cmpDs, depD, depDs, isNon, isNR, chainE, tvE, andV, orV, notV, ifE, slEV, ixR, callV, lenC, isiC, tyN, pick, retEV, callP, argD, argDs, seqS, bkS, ctS, exprS, retS, retNS, ifS, evSl, setS, SK.loop, gN, gNil, gCons, gT, asgS, parS, defF, defK, raiseS, absC, divmodC, mmC, stL, itL, itT, itR1, itR2, itE, shL, itZ, itV, forS, evD, methL, appL, clrL, popL, insL, trL, extL, setixS, argS, argSs, callI, callN, hereA, nextA, negE, itS, wipeR, compE, yesT, seqD, listC, tupC, numd, zipd, nxS, frSl, retSl, retSls, retOk, retOks, tryAsS, tryOnlyS, lookB, kinE, xfE, lookF, frzE, isTR, isTB, allC, blsD, gU, raiseIS, at0, at1, at2, at3, lrE, sortC, intC, intsD, slE, intO, eqXR, slX, addT, repT, inR, cmpO, heldR, appT, lrE, sortC, intC, intsD, slE, intO, eqXR, slX, addT, repT, compX, compDx, neYR, lrevE, inTR, strC, intTC, strE, splS, joiS, slZ, itC, inSR, strsD, repS, compZ, compDz]
  exact h T n1 _ _ (by omega)
theorem tu_r2 (ok : LnOk ls) (hT : T.length ≤ 30000) (h : ∀ (l : List Nat) (n' : Int) (s5 s6 : Sl), l.length ≤ 100000 → k.rt (.v (strL l)) [.l [.int n'], .v w, .v (strL T), .v (.lst true (ls.map strL)), .v (.int y), s5, s6]) :
    sf__law_turned_r2 [.l [.int n1], .v w, .v (strL T), .v (.lst true (ls.map strL)), .v (.int y), s5, s6] k := by
  have le := ok.le
  have sz : (200000 : Nat) ≤ sizeLine := by decide
  by_cases c : y = 6
  · subst c
    simp [sf__law_turned_r2, cE, vE, bE, rE, fE, mE, bin, nilA, consA, bT, andT, orT, notT, tupE, lstE, allV, allM, okB, intR, addR, asL, asT, asD, eqR, eqD_nn, eqD_bb, eqD_ii, eqD_ss, eqD_tt, eqD_ll, eqD_bi, eqD_ib, eqD_nt, eqD_tn, eqD_it, eqD_ti, eqD_ni, eqD_in, eqDs_nn, eqDs_cc, eqDs_nc, eqDs_cn, cmpD, cmpDs, depD, depDs, isNon, isNR, chainE, tvE, andV, orV, notV, ifE, slEV, ixR, callV, lenC, isiC, tyN, pick, retEV, callP, argD, argDs, seqS, bkS, ctS, exprS, retS, retNS, ifS, evSl, setS, SK.loop, gN, gNil, gCons, gT, asgS, parS, defF, defK, raiseS, absC, divmodC, mmC, stL, itL, itT, itR1, itR2, itE, shL, itZ, itV, forS, evD, methL, appL, clrL, popL, insL, trL, extL, setixS, argS, argSs, callI, callN, hereA, nextA, negE, itS, wipeR, compE, compD, yesT, seqD, listC, tupC, numd, zipd, nxS, frSl, retSl, retSls, retOk, retOks, tryAsS, tryOnlyS, lookB, kinE, xfE, lookF, frzE, isTR, isTB, allC, blsD, gU, raiseIS, at0, at1, at2, at3, lrE, sortC, intC, intsD, slE, intO, eqXR, slX, addT, repT, inR, cmpO, heldR, appT, lrE, sortC, intC, intsD, slE, intO, eqXR, slX, addT, repT, compX, compDx, neYR, lrevE, inTR, strC, intTC, strE, splS, joiS, slZ, itC, inSR, strsD, repS, compZ, compDz, s_none, s_line, s_tail, nS_S]
    have er : rngD 0 (13 - ls.length) = (List.range (13 - ls.length)).map fun i : Nat => .int (0 + (i : Nat)) := rfl
    let u : Nat → List Nat := fun i => 10 :: (intL (200 + (0 + (i : Nat))) ++ [32, 48, 32, 49])
    have lu : ∀ i ∈ List.range (13 - ls.length), (intL (200 + (0 + ((i : Nat) : Int)))).length ≤ 601 := fun i hi => intL_le (by
      have := List.mem_range.mp hi
      unfold Si
      exact Nat.lt_of_le_of_lt (by omega : (200 + (0 + ((i : Nat) : Int))).natAbs ≤ 300) (by decide +kernel))
    have hs : ∀ l ∈ (List.range (13 - ls.length)).map u, l.length ≤ 700 := fun l hl => by
      obtain ⟨i, hi, rfl⟩ := List.mem_map.mp hl
      have := lu i hi
      show (10 :: (intL (200 + (0 + (i : Nat))) ++ [32, 48, 32, 49])).length ≤ 700
      simp at this ⊢; omega
    have j1 := joinL_le (s := []) hs
    have j2 := sum_ls hs
    have j3 := sumS (ls := (List.range (13 - ls.length)).map u)
    rw [List.length_map, List.length_range] at j1 j2
    rw [rngD_len]
    rw [er]
    refine ⟨by omega, by omega, comp_mapT (fun i : Nat => .int (0 + (i : Nat))) (fun i => strL (u i)) (List.range (13 - ls.length)) [] _ (fun i hi acc ds K ih => ?_) ?_⟩
    · have l1 := lu i hi
      have l2 := List.mem_range.mp hi
      simp [cE, vE, bE, rE, fE, mE, bin, nilA, consA, bT, andT, orT, notT, tupE, lstE, allV, allM, okB, intR, addR, asL, asT, asD, eqR, eqD_nn, eqD_bb, eqD_ii, eqD_ss, eqD_tt, eqD_ll, eqD_bi, eqD_ib, eqD_nt, eqD_tn, eqD_it, eqD_ti, eqD_ni, eqD_in, eqDs_nn, eqDs_cc, eqDs_nc, eqDs_cn, cmpD, cmpDs, depD, depDs, isNon, isNR, chainE, tvE, andV, orV, notV, ifE, slEV, ixR, callV, lenC, isiC, tyN, pick, retEV, callP, argD, argDs, seqS, bkS, ctS, exprS, retS, retNS, ifS, evSl, setS, SK.loop, gN, gNil, gCons, gT, asgS, parS, defF, defK, raiseS, absC, divmodC, mmC, stL, itL, itT, itR1, itR2, itE, shL, itZ, itV, forS, evD, methL, appL, clrL, popL, insL, trL, extL, setixS, argS, argSs, callI, callN, hereA, nextA, negE, itS, wipeR, compE, compD, yesT, seqD, listC, tupC, numd, zipd, nxS, frSl, retSl, retSls, retOk, retOks, tryAsS, tryOnlyS, lookB, kinE, xfE, lookF, frzE, isTR, isTB, allC, blsD, gU, raiseIS, at0, at1, at2, at3, lrE, sortC, intC, intsD, slE, intO, cutD, eqXR, slX, addT, repT, inR, cmpO, heldR, appT, lrE, sortC, intC, intsD, slE, intO, cutD, eqXR, slX, addT, repT, compX, compDx, neYR, lrevE, inTR, strC, intTC, strE, splS, joiS, slZ, itC, inSR, strsD, repS, compZ, compDz, nS_S]
      simp only [SX.S_cat]
      simp only [SX.S_len, List.length_append, List.length_singleton]
      simp only [Int.zero_add] at l1
      have eu : strL (u i) = .str (S ([10] ++ intL (200 + ((i : Nat) : Int)) ++ [32, 48, 32, 49])) := by
        show D.str (S (10 :: (intL (200 + (0 + ((i : Nat) : Int))) ++ [32, 48, 32, 49]))) = _
        rw [Int.zero_add]
        simp
      rw [eu] at ih
      exact ⟨log_of (Nat.lt_of_le_of_lt (by omega : (200 + ((i : Nat) : Int)).natAbs ≤ 300) (by decide +kernel)), by omega, by simp; omega, ih⟩
    · rw [List.nil_append]
      have e : (List.range (13 - ls.length)).map (fun i => strL (u i)) = ((List.range (13 - ls.length)).map u).map strL := by rw [List.map_map]; rfl
      rw [e, strsD_S]
      dsimp only
      have e4 : PySem.Txt.join (S []) (((List.range (13 - ls.length)).map u).map S) = S (TL.joinL [] ((List.range (13 - ls.length)).map u)) := SX.join_S [] _
      rw [e4, j3, SX.S_cat]
      simp only [SX.S_len, List.length_map, List.length_range]
      simp at j1 j2 ⊢
      refine ⟨by omega, by omega, ?_⟩
      exact h _ n1 _ _ (by simp; omega)
  · simp [sf__law_turned_r2, cE, vE, bE, rE, fE, mE, bin, nilA, consA, bT, andT, orT, notT, tupE, lstE, allV, allM, okB, intR, addR, asL, asT, asD, eqR, eqD_nn, eqD_bb, eqD_ii, eqD_ss, eqD_tt, eqD_ll, eqD_bi, eqD_ib, eqD_nt, eqD_tn, eqD_it, eqD_ti, eqD_ni, eqD_in, eqDs_nn, eqDs_cc, eqDs_nc, eqDs_cn, cmpD, cmpDs, depD, depDs, isNon, isNR, chainE, tvE, andV, orV, notV, ifE, slEV, ixR, callV, lenC, isiC, tyN, pick, retEV, callP, argD, argDs, seqS, bkS, ctS, exprS, retS, retNS, ifS, evSl, setS, SK.loop, gN, gNil, gCons, gT, asgS, parS, defF, defK, raiseS, absC, divmodC, mmC, stL, itL, itT, itR1, itR2, itE, shL, itZ, itV, forS, evD, methL, appL, clrL, popL, insL, trL, extL, setixS, argS, argSs, callI, callN, hereA, nextA, negE, itS, wipeR, compE, yesT, seqD, listC, tupC, numd, zipd, nxS, frSl, retSl, retSls, retOk, retOks, tryAsS, tryOnlyS, lookB, kinE, xfE, lookF, frzE, isTR, isTB, allC, blsD, gU, raiseIS, at0, at1, at2, at3, lrE, sortC, intC, intsD, slE, intO, eqXR, slX, addT, repT, inR, cmpO, heldR, appT, lrE, sortC, intC, intsD, slE, intO, eqXR, slX, addT, repT, compX, compDx, neYR, lrevE, inTR, strC, intTC, strE, splS, joiS, slZ, itC, inSR, strsD, repS, compZ, compDz, c]
    exact tu_r1 hT h
theorem tu_r3 (ok : LnOk ls) (hT : T.length ≤ 30000) (h : ∀ (l : List Nat) (n' : Int) (s5 s6 : Sl), l.length ≤ 100000 → k.rt (.v (strL l)) [.l [.int n'], .v w, .v (strL T), .v (.lst true (ls.map strL)), .v (.int y), s5, s6]) :
    sf__law_turned_r3 [.l [.int n1], .v w, .v (strL T), .v (.lst true (ls.map strL)), .v (.int y), s5, s6] k := by
  have le := ok.le
  have sz : (200000 : Nat) ≤ sizeLine := by decide
  by_cases c : y = 5
  · subst c
    match ls, ok.ne with
    | x :: b, _ =>
      have e1 := cut_f5 (strL x) (b.map strL)
      have e2 := cut_h5 (strL x) (b.map strL)
      have e3 := strsD_S (b ++ [x])
      have e4 : PySem.Txt.join (S [10]) ((b ++ [x]).map S) = S (TL.joinL [10] (b ++ [x])) := SX.join_S [10] (b ++ [x])
      have hs : ∀ l ∈ b ++ [x], l.length ≤ 4000 := fun l hl => ok.sm l (by
        rcases List.mem_append.mp hl with hl | hl
        · exact List.mem_cons_of_mem _ hl
        · rw [List.mem_singleton.mp hl]; exact List.mem_cons_self)
      have j1 := joinL_le (s := [10]) hs
      have j2 := sum_ls hs
      have j3 := sumS (ls := b ++ [x])
      simp at j1 j2 j3 e3 e4 le
      have k0 := h (TL.joinL [10] (b ++ [x])) n1 s5 s6 (by omega)
      simp [sf__law_turned_r3, cE, vE, bE, rE, fE, mE, bin, nilA, consA, bT, andT, orT, notT, tupE, lstE, allV, allM, okB, intR, addR, asL, asT, asD, eqR, eqD_nn, eqD_bb, eqD_ii, eqD_ss, eqD_tt, eqD_ll, eqD_bi, eqD_ib, eqD_nt, eqD_tn, eqD_it, eqD_ti, eqD_ni, eqD_in, eqDs_nn, eqDs_cc, eqDs_nc, eqDs_cn, cmpD, cmpDs, depD, depDs, isNon, isNR, chainE, tvE, andV, orV, notV, ifE, slEV, ixR, callV, lenC, isiC, tyN, pick, retEV, callP, argD, argDs, seqS, bkS, ctS, exprS, retS, retNS, ifS, evSl, setS, SK.loop, gN, gNil, gCons, gT, asgS, parS, defF, defK, raiseS, absC, divmodC, mmC, stL, itL, itT, itR1, itR2, itE, shL, itZ, itV, forS, evD, methL, appL, clrL, popL, insL, trL, extL, setixS, argS, argSs, callI, callN, hereA, nextA, negE, itS, wipeR, compE, yesT, seqD, listC, tupC, numd, zipd, nxS, frSl, retSl, retSls, retOk, retOks, tryAsS, tryOnlyS, lookB, kinE, xfE, lookF, frzE, isTR, isTB, allC, blsD, gU, raiseIS, at0, at1, at2, at3, lrE, sortC, intC, intsD, slE, intO, eqXR, slX, addT, repT, inR, cmpO, heldR, appT, lrE, sortC, intC, intsD, slE, intO, eqXR, slX, addT, repT, compX, compDx, neYR, lrevE, inTR, strC, intTC, strE, splS, joiS, slZ, itC, inSR, strsD, repS, compZ, compDz, s_line, e1, e2, e3, e4]
      have e10 := SX.S_len [10]
      rw [e10]
      exact ⟨by omega, by simp; omega, k0⟩
  · simp [sf__law_turned_r3, cE, vE, bE, rE, fE, mE, bin, nilA, consA, bT, andT, orT, notT, tupE, lstE, allV, allM, okB, intR, addR, asL, asT, asD, eqR, eqD_nn, eqD_bb, eqD_ii, eqD_ss, eqD_tt, eqD_ll, eqD_bi, eqD_ib, eqD_nt, eqD_tn, eqD_it, eqD_ti, eqD_ni, eqD_in, eqDs_nn, eqDs_cc, eqDs_nc, eqDs_cn, cmpD, cmpDs, depD, depDs, isNon, isNR, chainE, tvE, andV, orV, notV, ifE, slEV, ixR, callV, lenC, isiC, tyN, pick, retEV, callP, argD, argDs, seqS, bkS, ctS, exprS, retS, retNS, ifS, evSl, setS, SK.loop, gN, gNil, gCons, gT, asgS, parS, defF, defK, raiseS, absC, divmodC, mmC, stL, itL, itT, itR1, itR2, itE, shL, itZ, itV, forS, evD, methL, appL, clrL, popL, insL, trL, extL, setixS, argS, argSs, callI, callN, hereA, nextA, negE, itS, wipeR, compE, yesT, seqD, listC, tupC, numd, zipd, nxS, frSl, retSl, retSls, retOk, retOks, tryAsS, tryOnlyS, lookB, kinE, xfE, lookF, frzE, isTR, isTB, allC, blsD, gU, raiseIS, at0, at1, at2, at3, lrE, sortC, intC, intsD, slE, intO, eqXR, slX, addT, repT, inR, cmpO, heldR, appT, lrE, sortC, intC, intsD, slE, intO, eqXR, slX, addT, repT, compX, compDx, neYR, lrevE, inTR, strC, intTC, strE, splS, joiS, slZ, itC, inSR, strsD, repS, compZ, compDz, c]
    exact tu_r2 ok hT h
theorem tu_r4 (ok : LnOk ls) (hT : T.length ≤ 30000) (h : ∀ (l : List Nat) (n' : Int) (s5 s6 : Sl), l.length ≤ 100000 → k.rt (.v (strL l)) [.l [.int n'], .v w, .v (strL T), .v (.lst true (ls.map strL)), .v (.int y), s5, s6]) :
    sf__law_turned_r4 [.l [.int n1], .v w, .v (strL T), .v (.lst true (ls.map strL)), .v (.int y), s5, s6] k := by
  have le := ok.le
  have hn : 0 < ls.length := List.length_pos_iff.mpr ok.ne
  have sz : (200000 : Nat) ≤ sizeLine := by decide
  by_cases c : y = 4
  · subst c
    simp [sf__law_turned_r4, cE, vE, bE, rE, fE, mE, bin, nilA, consA, bT, andT, orT, notT, tupE, lstE, allV, allM, okB, intR, addR, asL, asT, asD, eqR, eqD_nn, eqD_bb, eqD_ii, eqD_ss, eqD_tt, eqD_ll, eqD_bi, eqD_ib, eqD_nt, eqD_tn, eqD_it, eqD_ti, eqD_ni, eqD_in, eqDs_nn, eqDs_cc, eqDs_nc, eqDs_cn, cmpD, cmpDs, depD, depDs, isNon, isNR, chainE, tvE, andV, orV, notV, ifE, slEV, ixR, callV, lenC, isiC, tyN, pick, retEV, callP, argD, argDs, seqS, bkS, ctS, exprS, retS, retNS, ifS, evSl, setS, SK.loop, gN, gNil, gCons, gT, asgS, parS, defF, defK, raiseS, absC, divmodC, mmC, stL, itL, itT, itR1, itR2, itE, shL, itZ, itV, forS, evD, methL, appL, clrL, popL, insL, trL, extL, setixS, argS, argSs, callI, callN, hereA, nextA, negE, itS, wipeR, compE, yesT, seqD, listC, tupC, numd, zipd, nxS, frSl, retSl, retSls, retOk, retOks, tryAsS, tryOnlyS, lookB, kinE, xfE, lookF, frzE, isTR, isTB, allC, blsD, gU, raiseIS, at0, at1, at2, at3, lrE, sortC, intC, intsD, slE, intO, eqXR, slX, addT, repT, inR, cmpO, heldR, appT, lrE, sortC, intC, intsD, slE, intO, eqXR, slX, addT, repT, compX, compDx, neYR, lrevE, inTR, strC, intTC, strE, splS, joiS, slZ, itC, inSR, strsD, repS, compZ, compDz, F__law_take]
    refine ⟨⟨hn, (by unfold Si; exact Nat.lt_of_le_of_lt (by omega : (ls.length : Int).natAbs ≤ 5) (by decide +kernel))⟩, fun i n2 i0 i1 => ?_⟩
    obtain ⟨a, l, c, rfl, ha⟩ : ∃ a l c, ls = a ++ l :: c ∧ a.length = i.toNat := ⟨ls.take i.toNat, ls[i.toNat]'(by omega), ls.drop (i.toNat + 1), by rw [← List.drop_eq_getElem_cons, List.take_append_drop], by rw [List.length_take]; omega⟩
    obtain ⟨i, rfl⟩ : ∃ k : Nat, i = (k : Int) := ⟨i.toNat, by omega⟩
    have ha : a.length = i := by omega
    subst ha
    have el : L2.atI (a.map strL ++ strL l :: c.map strL) (a.length : Int) = some (strL l) := atN (xs := a.map strL ++ strL l :: c.map strL) (i := a.length) (x := strL l) (by simp)
    have ea := cut_a5 (a.map strL) (c.map strL) (strL l)
    have ec := cut_l5 (a.map strL) (c.map strL) (strL l)
    rw [List.length_map] at ea ec
    have hs : ∀ u ∈ a ++ l :: l :: c, u.length ≤ 4000 := fun u hu => ok.sm u (by
      rcases List.mem_append.mp hu with hu | hu
      · exact List.mem_append_left _ hu
      · rcases List.mem_cons.mp hu with rfl | hu
        · simp
        · exact List.mem_append_right _ hu)
    have j1 := joinL_le (s := [10]) hs
    have j2 := sum_ls hs
    have j3 := sumS (ls := a ++ l :: l :: c)
    have e3 := strsD_S (a ++ l :: l :: c)
    have e4 : PySem.Txt.join (S [10]) ((a ++ l :: l :: c).map S) = S (TL.joinL [10] (a ++ l :: l :: c)) := SX.join_S [10] (a ++ l :: l :: c)
    simp at j1 j2 j3 e3 e4 le
    have k0 := fun s5 s6 => h (TL.joinL [10] (a ++ l :: l :: c)) n2 s5 s6 (by omega)
    simp at k0
    simp [cE, vE, bE, rE, fE, mE, bin, nilA, consA, bT, andT, orT, notT, tupE, lstE, allV, allM, okB, intR, addR, asL, asT, asD, eqR, eqD_nn, eqD_bb, eqD_ii, eqD_ss, eqD_tt, eqD_ll, eqD_bi, eqD_ib, eqD_nt, eqD_tn, eqD_it, eqD_ti, eqD_ni, eqD_in, eqDs_nn, eqDs_cc, eqDs_nc, eqDs_cn, cmpD, cmpDs, depD, depDs, isNon, isNR, chainE, tvE, andV, orV, notV, ifE, slEV, ixR, callV, lenC, isiC, tyN, pick, retEV, callP, argD, argDs, seqS, bkS, ctS, exprS, retS, retNS, ifS, evSl, setS, SK.loop, gN, gNil, gCons, gT, asgS, parS, defF, defK, raiseS, absC, divmodC, mmC, stL, itL, itT, itR1, itR2, itE, shL, itZ, itV, forS, evD, methL, appL, clrL, popL, insL, trL, extL, setixS, argS, argSs, callI, callN, hereA, nextA, negE, itS, wipeR, compE, yesT, seqD, listC, tupC, numd, zipd, nxS, frSl, retSl, retSls, retOk, retOks, tryAsS, tryOnlyS, lookB, kinE, xfE, lookF, frzE, isTR, isTB, allC, blsD, gU, raiseIS, at0, at1, at2, at3, lrE, sortC, intC, intsD, slE, intO, eqXR, slX, addT, repT, inR, cmpO, heldR, appT, lrE, sortC, intC, intsD, slE, intO, eqXR, slX, addT, repT, compX, compDx, neYR, lrevE, inTR, strC, intTC, strE, splS, joiS, slZ, itC, inSR, strsD, repS, compZ, compDz, s_line, el, ea, ec, e3, e4]
    have e10 := SX.S_len [10]
    rw [e10]
    exact ⟨by omega, by omega, by simp; omega, k0 _ _⟩
  · simp [sf__law_turned_r4, cE, vE, bE, rE, fE, mE, bin, nilA, consA, bT, andT, orT, notT, tupE, lstE, allV, allM, okB, intR, addR, asL, asT, asD, eqR, eqD_nn, eqD_bb, eqD_ii, eqD_ss, eqD_tt, eqD_ll, eqD_bi, eqD_ib, eqD_nt, eqD_tn, eqD_it, eqD_ti, eqD_ni, eqD_in, eqDs_nn, eqDs_cc, eqDs_nc, eqDs_cn, cmpD, cmpDs, depD, depDs, isNon, isNR, chainE, tvE, andV, orV, notV, ifE, slEV, ixR, callV, lenC, isiC, tyN, pick, retEV, callP, argD, argDs, seqS, bkS, ctS, exprS, retS, retNS, ifS, evSl, setS, SK.loop, gN, gNil, gCons, gT, asgS, parS, defF, defK, raiseS, absC, divmodC, mmC, stL, itL, itT, itR1, itR2, itE, shL, itZ, itV, forS, evD, methL, appL, clrL, popL, insL, trL, extL, setixS, argS, argSs, callI, callN, hereA, nextA, negE, itS, wipeR, compE, yesT, seqD, listC, tupC, numd, zipd, nxS, frSl, retSl, retSls, retOk, retOks, tryAsS, tryOnlyS, lookB, kinE, xfE, lookF, frzE, isTR, isTB, allC, blsD, gU, raiseIS, at0, at1, at2, at3, lrE, sortC, intC, intsD, slE, intO, eqXR, slX, addT, repT, inR, cmpO, heldR, appT, lrE, sortC, intC, intsD, slE, intO, eqXR, slX, addT, repT, compX, compDx, neYR, lrevE, inTR, strC, intTC, strE, splS, joiS, slZ, itC, inSR, strsD, repS, compZ, compDz, c]
    exact tu_r3 ok hT h
theorem tu_r5 (ok : LnOk ls) (hT : T.length ≤ 30000) (h : ∀ (l : List Nat) (n' : Int) (s5 s6 : Sl), l.length ≤ 100000 → k.rt (.v (strL l)) [.l [.int n'], .v w, .v (strL T), .v (.lst true (ls.map strL)), .v (.int y), s5, s6]) :
    sf__law_turned_r5 [.l [.int n1], .v w, .v (strL T), .v (.lst true (ls.map strL)), .v (.int y), s5, s6] k := by
  have le := ok.le
  have sz : (200000 : Nat) ≤ sizeLine := by decide
  by_cases c : y = 3
  · subst c
    simp [sf__law_turned_r5, cE, vE, bE, rE, fE, mE, bin, nilA, consA, bT, andT, orT, notT, tupE, lstE, allV, allM, okB, intR, addR, asL, asT, asD, eqR, eqD_nn, eqD_bb, eqD_ii, eqD_ss, eqD_tt, eqD_ll, eqD_bi, eqD_ib, eqD_nt, eqD_tn, eqD_it, eqD_ti, eqD_ni, eqD_in, eqDs_nn, eqDs_cc, eqDs_nc, eqDs_cn, cmpD, cmpDs, depD, depDs, isNon, isNR, chainE, tvE, andV, orV, notV, ifE, slEV, ixR, callV, lenC, isiC, tyN, pick, retEV, callP, argD, argDs, seqS, bkS, ctS, exprS, retS, retNS, ifS, evSl, setS, SK.loop, gN, gNil, gCons, gT, asgS, parS, defF, defK, raiseS, absC, divmodC, mmC, stL, itL, itT, itR1, itR2, itE, shL, itZ, itV, forS, evD, methL, appL, clrL, popL, insL, trL, extL, setixS, argS, argSs, callI, callN, hereA, nextA, negE, itS, wipeR, compE, yesT, seqD, listC, tupC, numd, zipd, nxS, frSl, retSl, retSls, retOk, retOks, tryAsS, tryOnlyS, lookB, kinE, xfE, lookF, frzE, isTR, isTB, allC, blsD, gU, raiseIS, at0, at1, at2, at3, lrE, sortC, intC, intsD, slE, intO, eqXR, slX, addT, repT, inR, cmpO, heldR, appT, lrE, sortC, intC, intsD, slE, intO, eqXR, slX, addT, repT, compX, compDx, neYR, lrevE, inTR, strC, intTC, strE, splS, joiS, slZ, itC, inSR, strsD, repS, compZ, compDz, s_line]
    refine ⟨n1, true, ls, rfl, ok, fun ls' n2 hl hs => ?_⟩
    have e3 := strsD_S ls'
    have e4 : PySem.Txt.join (S [10]) (ls'.map S) = S (TL.joinL [10] ls') := SX.join_S [10] ls'
    have j1 := joinL_le (s := [10]) hs
    have j2 := sum_ls hs
    have j3 := sumS (ls := ls')
    have k0 := h (TL.joinL [10] ls') n2 s5 s6 (by simp at j1; omega)
    simp [cE, vE, bE, rE, fE, mE, bin, nilA, consA, bT, andT, orT, notT, tupE, lstE, allV, allM, okB, intR, addR, asL, asT, asD, eqR, eqD_nn, eqD_bb, eqD_ii, eqD_ss, eqD_tt, eqD_ll, eqD_bi, eqD_ib, eqD_nt, eqD_tn, eqD_it, eqD_ti, eqD_ni, eqD_in, eqDs_nn, eqDs_cc, eqDs_nc, eqDs_cn, cmpD, cmpDs, depD, depDs, isNon, isNR, chainE, tvE, andV, orV, notV, ifE, slEV, ixR, callV, lenC, isiC, tyN, pick, retEV, callP, argD, argDs, seqS, bkS, ctS, exprS, retS, retNS, ifS, evSl, setS, SK.loop, gN, gNil, gCons, gT, asgS, parS, defF, defK, raiseS, absC, divmodC, mmC, stL, itL, itT, itR1, itR2, itE, shL, itZ, itV, forS, evD, methL, appL, clrL, popL, insL, trL, extL, setixS, argS, argSs, callI, callN, hereA, nextA, negE, itS, wipeR, compE, yesT, seqD, listC, tupC, numd, zipd, nxS, frSl, retSl, retSls, retOk, retOks, tryAsS, tryOnlyS, lookB, kinE, xfE, lookF, frzE, isTR, isTB, allC, blsD, gU, raiseIS, at0, at1, at2, at3, lrE, sortC, intC, intsD, slE, intO, eqXR, slX, addT, repT, inR, cmpO, heldR, appT, lrE, sortC, intC, intsD, slE, intO, eqXR, slX, addT, repT, compX, compDx, neYR, lrevE, inTR, strC, intTC, strE, splS, joiS, slZ, itC, inSR, strsD, repS, compZ, compDz, e3, e4]
    simp at j3
    have e10 := SX.S_len [10]
    rw [e10]
    exact ⟨by simp; omega, k0⟩
  · simp [sf__law_turned_r5, cE, vE, bE, rE, fE, mE, bin, nilA, consA, bT, andT, orT, notT, tupE, lstE, allV, allM, okB, intR, addR, asL, asT, asD, eqR, eqD_nn, eqD_bb, eqD_ii, eqD_ss, eqD_tt, eqD_ll, eqD_bi, eqD_ib, eqD_nt, eqD_tn, eqD_it, eqD_ti, eqD_ni, eqD_in, eqDs_nn, eqDs_cc, eqDs_nc, eqDs_cn, cmpD, cmpDs, depD, depDs, isNon, isNR, chainE, tvE, andV, orV, notV, ifE, slEV, ixR, callV, lenC, isiC, tyN, pick, retEV, callP, argD, argDs, seqS, bkS, ctS, exprS, retS, retNS, ifS, evSl, setS, SK.loop, gN, gNil, gCons, gT, asgS, parS, defF, defK, raiseS, absC, divmodC, mmC, stL, itL, itT, itR1, itR2, itE, shL, itZ, itV, forS, evD, methL, appL, clrL, popL, insL, trL, extL, setixS, argS, argSs, callI, callN, hereA, nextA, negE, itS, wipeR, compE, yesT, seqD, listC, tupC, numd, zipd, nxS, frSl, retSl, retSls, retOk, retOks, tryAsS, tryOnlyS, lookB, kinE, xfE, lookF, frzE, isTR, isTB, allC, blsD, gU, raiseIS, at0, at1, at2, at3, lrE, sortC, intC, intsD, slE, intO, eqXR, slX, addT, repT, inR, cmpO, heldR, appT, lrE, sortC, intC, intsD, slE, intO, eqXR, slX, addT, repT, compX, compDx, neYR, lrevE, inTR, strC, intTC, strE, splS, joiS, slZ, itC, inSR, strsD, repS, compZ, compDz, c]
    exact tu_r4 ok hT h
theorem tu_r6 (ok : LnOk ls) (hT : T.length ≤ 30000) (h : ∀ (l : List Nat) (n' : Int) (s5 s6 : Sl), l.length ≤ 100000 → k.rt (.v (strL l)) [.l [.int n'], .v w, .v (strL T), .v (.lst true (ls.map strL)), .v (.int y), s5, s6]) :
    sf__law_turned_r6 [.l [.int n1], .v w, .v (strL T), .v (.lst true (ls.map strL)), .v (.int y), s5, s6] k := by
  by_cases c : y < 3
  · simp [sf__law_turned_r6, cE, vE, bE, rE, fE, mE, bin, nilA, consA, bT, andT, orT, notT, tupE, lstE, allV, allM, okB, intR, addR, asL, asT, asD, eqR, eqD_nn, eqD_bb, eqD_ii, eqD_ss, eqD_tt, eqD_ll, eqD_bi, eqD_ib, eqD_nt, eqD_tn, eqD_it, eqD_ti, eqD_ni, eqD_in, eqDs_nn, eqDs_cc, eqDs_nc, eqDs_cn, cmpD, cmpDs, depD, depDs, isNon, isNR, chainE, tvE, andV, orV, notV, ifE, slEV, ixR, callV, lenC, isiC, tyN, pick, retEV, callP, argD, argDs, seqS, bkS, ctS, exprS, retS, retNS, ifS, evSl, setS, SK.loop, gN, gNil, gCons, gT, asgS, parS, defF, defK, raiseS, absC, divmodC, mmC, stL, itL, itT, itR1, itR2, itE, shL, itZ, itV, forS, evD, methL, appL, clrL, popL, insL, trL, extL, setixS, argS, argSs, callI, callN, hereA, nextA, negE, itS, wipeR, compE, yesT, seqD, listC, tupC, numd, zipd, nxS, frSl, retSl, retSls, retOk, retOks, tryAsS, tryOnlyS, lookB, kinE, xfE, lookF, frzE, isTR, isTB, allC, blsD, gU, raiseIS, at0, at1, at2, at3, lrE, sortC, intC, intsD, slE, intO, eqXR, slX, addT, repT, inR, cmpO, heldR, appT, lrE, sortC, intC, intsD, slE, intO, eqXR, slX, addT, repT, compX, compDx, neYR, lrevE, inTR, strC, intTC, strE, splS, joiS, slZ, itC, inSR, strsD, repS, compZ, compDz, c]
    refine ⟨n1, T, rfl, by omega, fun l' n' hl => ?_⟩
    simp [cE, vE, bE, rE, fE, mE, bin, nilA, consA, bT, andT, orT, notT, tupE, lstE, allV, allM, okB, intR, addR, asL, asT, asD, eqR, eqD_nn, eqD_bb, eqD_ii, eqD_ss, eqD_tt, eqD_ll, eqD_bi, eqD_ib, eqD_nt, eqD_tn, eqD_it, eqD_ti, eqD_ni, eqD_in, eqDs_nn, eqDs_cc, eqDs_nc, eqDs_cn, cmpD, cmpDs, depD, depDs, isNon, isNR, chainE, tvE, andV, orV, notV, ifE, slEV, ixR, callV, lenC, isiC, tyN, pick, retEV, callP, argD, argDs, seqS, bkS, ctS, exprS, retS, retNS, ifS, evSl, setS, SK.loop, gN, gNil, gCons, gT, asgS, parS, defF, defK, raiseS, absC, divmodC, mmC, stL, itL, itT, itR1, itR2, itE, shL, itZ, itV, forS, evD, methL, appL, clrL, popL, insL, trL, extL, setixS, argS, argSs, callI, callN, hereA, nextA, negE, itS, wipeR, compE, yesT, seqD, listC, tupC, numd, zipd, nxS, frSl, retSl, retSls, retOk, retOks, tryAsS, tryOnlyS, lookB, kinE, xfE, lookF, frzE, isTR, isTB, allC, blsD, gU, raiseIS, at0, at1, at2, at3, lrE, sortC, intC, intsD, slE, intO, eqXR, slX, addT, repT, inR, cmpO, heldR, appT, lrE, sortC, intC, intsD, slE, intO, eqXR, slX, addT, repT, compX, compDx, neYR, lrevE, inTR, strC, intTC, strE, splS, joiS, slZ, itC, inSR, strsD, repS, compZ, compDz]
    exact h l' n' _ _ (by omega)
  · simp [sf__law_turned_r6, cE, vE, bE, rE, fE, mE, bin, nilA, consA, bT, andT, orT, notT, tupE, lstE, allV, allM, okB, intR, addR, asL, asT, asD, eqR, eqD_nn, eqD_bb, eqD_ii, eqD_ss, eqD_tt, eqD_ll, eqD_bi, eqD_ib, eqD_nt, eqD_tn, eqD_it, eqD_ti, eqD_ni, eqD_in, eqDs_nn, eqDs_cc, eqDs_nc, eqDs_cn, cmpD, cmpDs, depD, depDs, isNon, isNR, chainE, tvE, andV, orV, notV, ifE, slEV, ixR, callV, lenC, isiC, tyN, pick, retEV, callP, argD, argDs, seqS, bkS, ctS, exprS, retS, retNS, ifS, evSl, setS, SK.loop, gN, gNil, gCons, gT, asgS, parS, defF, defK, raiseS, absC, divmodC, mmC, stL, itL, itT, itR1, itR2, itE, shL, itZ, itV, forS, evD, methL, appL, clrL, popL, insL, trL, extL, setixS, argS, argSs, callI, callN, hereA, nextA, negE, itS, wipeR, compE, yesT, seqD, listC, tupC, numd, zipd, nxS, frSl, retSl, retSls, retOk, retOks, tryAsS, tryOnlyS, lookB, kinE, xfE, lookF, frzE, isTR, isTB, allC, blsD, gU, raiseIS, at0, at1, at2, at3, lrE, sortC, intC, intsD, slE, intO, eqXR, slX, addT, repT, inR, cmpO, heldR, appT, lrE, sortC, intC, intsD, slE, intO, eqXR, slX, addT, repT, compX, compDx, neYR, lrevE, inTR, strC, intTC, strE, splS, joiS, slZ, itC, inSR, strsD, repS, compZ, compDz]
    rw [if_neg c]
    exact tu_r5 ok hT h
end
theorem to__law_turned : ∀ ss K E, F__law_turned ss K E → defF [true, false] 7 sf__law_turned ss K E := fun ss K E h => by
  obtain ⟨n, st, bs, rfl, ⟨ne, le, wk⟩, h⟩ := h
  have ok : LnOk (bs.map bdL) := ⟨by simpa using ne, by simpa using le, fun l hl => by
      obtain ⟨b, hb, rfl⟩ := List.mem_map.mp hl
      rw [bdL_join, TL.spl_join (by simp) (fun p hp => by
        simp at hp
        rcases hp with rfl | rfl | rfl
        · exact qtxL_free (by omega)
        · exact qtxL_free (by omega)
        · exact intL_free (by omega))]
      rfl, fun l hl => by
      obtain ⟨b, hb, rfl⟩ := List.mem_map.mp hl
      exact bdL_le (wk b hb)⟩
  have hT : (wdL bs).length ≤ 30000 := by
    have := joinL_le (s := [10]) ok.sm
    simp at this
    unfold wdL
    omega
  have es : (PySem.Txt.split (S (wdL bs)) (S [10])).map D.str = (bs.map bdL).map strL := by
    rw [splS_S (by decide)]
    unfold wdL
    rw [TL.spl_join ok.ne (fun p hp => by
      obtain ⟨b, _, rfl⟩ := List.mem_map.mp hp
      exact bdL_free)]
  have eT : (S (wdL bs)).length = (wdL bs).length := SX.S_len _
  have e10 : (S [10]).length = 1 := SX.S_len _
  have sz : (200000 : Nat) ≤ sizeLine := by decide
  simp [sf__law_turned, cE, vE, bE, rE, fE, mE, bin, nilA, consA, bT, andT, orT, notT, tupE, lstE, allV, allM, okB, intR, addR, asL, asT, asD, eqR, eqD_nn, eqD_bb, eqD_ii, eqD_ss, eqD_tt, eqD_ll, eqD_bi, eqD_ib, eqD_nt, eqD_tn, eqD_it, eqD_ti, eqD_ni, eqD_in, eqDs_nn, eqDs_cc, eqDs_nc, eqDs_cn, cmpD, cmpDs, depD, depDs, isNon, isNR, chainE, tvE, andV, orV, notV, ifE, slEV, ixR, callV, lenC, isiC, tyN, pick, retEV, callP, argD, argDs, seqS, bkS, ctS, exprS, retS, retNS, ifS, evSl, setS, SK.loop, gN, gNil, gCons, gT, asgS, parS, defF, defK, raiseS, absC, divmodC, mmC, stL, itL, itT, itR1, itR2, itE, shL, itZ, itV, forS, evD, methL, appL, clrL, popL, insL, trL, extL, setixS, argS, argSs, callI, callN, hereA, nextA, negE, itS, wipeR, compE, yesT, seqD, listC, tupC, numd, zipd, nxS, frSl, retSl, retSls, retOk, retOks, tryAsS, tryOnlyS, lookB, kinE, xfE, lookF, frzE, isTR, isTB, allC, blsD, gU, raiseIS, at0, at1, at2, at3, lrE, sortC, intC, intsD, slE, intO, eqXR, slX, addT, repT, inR, cmpO, heldR, appT, lrE, sortC, intC, intsD, slE, intO, eqXR, slX, addT, repT, compX, compDx, neYR, lrevE, inTR, strC, intTC, strE, splS, joiS, slZ, itC, inSR, strsD, repS, compZ, compDz]
  refine ⟨st, bs, rfl, ⟨by omega, wk⟩, ?_⟩
  simp [cE, vE, bE, rE, fE, mE, bin, nilA, consA, bT, andT, orT, notT, tupE, lstE, allV, allM, okB, intR, addR, asL, asT, asD, eqR, eqD_nn, eqD_bb, eqD_ii, eqD_ss, eqD_tt, eqD_ll, eqD_bi, eqD_ib, eqD_nt, eqD_tn, eqD_it, eqD_ti, eqD_ni, eqD_in, eqDs_nn, eqDs_cc, eqDs_nc, eqDs_cn, cmpD, cmpDs, depD, depDs, isNon, isNR, chainE, tvE, andV, orV, notV, ifE, slEV, ixR, callV, lenC, isiC, tyN, pick, retEV, callP, argD, argDs, seqS, bkS, ctS, exprS, retS, retNS, ifS, evSl, setS, SK.loop, gN, gNil, gCons, gT, asgS, parS, defF, defK, raiseS, absC, divmodC, mmC, stL, itL, itT, itR1, itR2, itE, shL, itZ, itV, forS, evD, methL, appL, clrL, popL, insL, trL, extL, setixS, argS, argSs, callI, callN, hereA, nextA, negE, itS, wipeR, compE, yesT, seqD, listC, tupC, numd, zipd, nxS, frSl, retSl, retSls, retOk, retOks, tryAsS, tryOnlyS, lookB, kinE, xfE, lookF, frzE, isTR, isTB, allC, blsD, gU, raiseIS, at0, at1, at2, at3, lrE, sortC, intC, intsD, slE, intO, eqXR, slX, addT, repT, inR, cmpO, heldR, appT, lrE, sortC, intC, intsD, slE, intO, eqXR, slX, addT, repT, compX, compDx, neYR, lrevE, inTR, strC, intTC, strE, splS, joiS, slZ, itC, inSR, strsD, repS, compZ, compDz, F__law_take, s_line]
  rw [es, eT, e10]
  refine ⟨⟨by omega, by omega⟩, (by unfold Si; decide +kernel), fun y n1 y0 y1 => tu_r6 ok hT fun l n' s5 s6 hl => ?_⟩
  simp [pick, retSls, retSl, retOk, retOks]
  exact h l n' hl
end VS
set_option Elab.async false
set_option linter.all false
set_option maxRecDepth 100000
set_option maxHeartbeats 4000000
/-! K06: texts refused. Own work. -/
namespace VS
open PySem PySem.Spec PyProof.Rows
open L2 (V Hp Cx WX)
open SX (S)
def sf_law_r1 : SS := (ifS (andT (notT (bT (callV (isiC kb) (consA true (vE 7) (consA true (cE (.ty "list")) nilA))))) (notT (bT (callP F__law_whole [] (consA true (vE 6) nilA))))) (retS (cE (.bl false))) nxS)
def sf_law_r2 : SS := (seqS (ifS (orT (bT (bin true (callV (isiC kb) (consA true (vE 7) (consA true (cE (.ty "list")) nilA))) (callV (isiC kb) (consA true (vE 6) (consA true (cE (.ty "list")) nilA))) (eqR true))) (bT (bin true (vE 6) (vE 7) (eqR true)))) (retS (cE (.bl false))) nxS)
  sf_law_r1)
def sf_law_r3 : SS := (seqS (setS 7 true (callP F__law_read [] (consA true (vE 5) nilA)))
  sf_law_r2)
def sf_law_r4 : SS := (seqS (setS 6 true (callP F__law_told [] (consA true (vE 5) nilA)))
  sf_law_r3)
def sf_law_r5 : SS := (ifS (orT (bT (bin true (callP F__law_told [] (consA true (lstE (consA true (callP F__law_text [] (consA true (vE 3) nilA)) nilA)) nilA)) (cE (.int 0)) (eqR true))) (bT (bin true (callP F__law_told [] (consA true (cE (.str "")) nilA)) (cE (.int 0)) (eqR true)))) (retS (cE (.bl false))) nxS)
def sf_law_r6 : SS := (seqS (ifS (andT (notT (bT (callV (isiC kb) (consA true (vE 8) (consA true (cE (.ty "str")) nilA))))) (orT (bT (bin true (callP F__law_told [] (consA true (vE 8) nilA)) (cE (.int 0)) (eqR true))) (notT (bT (callP F__law_whole [] (consA true (callP F__law_told [] (consA true (vE 8) nilA)) nilA)))))) (retS (cE (.bl false))) nxS)
  sf_law_r5)
def sf_law_r7 : SS := (seqS (setS 8 true (callI F__law_odd 2 (hereA 2 nilA)))
  sf_law_r6)
def sf_law_r8 : SS := (seqS (forS (itR1 (consA true (cE (.int 3)) nilA)) (gN 4 true) (seqS (setS 5 true (callI F__law_turned 2 (hereA 2 (consA true (vE 3) nilA))))
  sf_law_r4))
  sf_law_r7)
def sf_law : SS := (seqS (forS (itR1 (consA true (callV (mmC true) (consA true (cE (.int 1)) (consA true (callV (mmC false) (consA true (callV lenC (consA true (vE 0) nilA)) (consA true (cE (.int 6)) nilA))) nilA))) nilA)) (gN 1 true) (seqS (setS 2 false (callP F__law_box [] (consA true (vE 0) (consA true (vE 1) nilA))))
  (seqS (setS 3 true (slX (callI F__law_world 2 (hereA 2 nilA)) none (some (cE (.int 5)))))
  sf_law_r8)))
  (retS (cE (.bl true))))
def dueD : Except Nat (List Bw) → D
  | .ok bs => .lst true (bs.map wD)
  | .error n => .int (n : Nat)
theorem told_due {l : List Nat} {K : EV → List Sl → Prop} {E : Exc → List Sl → Prop} (hl : l.length ≤ 100000) (h : K (.v (dueD (readL l))) []) : F__law_told [.v (strL l)] K E := by
  refine ⟨_, rfl, .inr ⟨l, rfl, hl, ?_⟩⟩
  cases e : readL l with
  | ok bs => rw [e] at h; exact h
  | error n => rw [e] at h; exact h
section
variable {s0 s1 s2 s3 s4 s5 s6 s7 s8 : Sl} {k : SK}
theorem r2_ok {R : Except Nat (List Bw)} (hk : k.nx [s0, s1, s2, s3, s4, s5, .v (dueD R), .v (dueD R), s8]) : sf_law_r2 [s0, s1, s2, s3, s4, s5, .v (dueD R), .v (dueD R), s8] k := by
  cases R with
  | ok bs =>
    have cw := cmp_w bs
    have ew := eq_w bs
    have dw := dep_w bs
    simp [sf_law_r2, sf_law_r1, cE, vE, bE, rE, fE, mE, bin, nilA, consA, bT, andT, orT, notT, tupE, lstE, allV, allM, okB, intR, addR, asL, asT, asD, eqR, eqD_nn, eqD_bb, eqD_ii, eqD_ss, eqD_tt, eqD_ll, eqD_bi, eqD_ib, eqD_nt, eqD_tn, eqD_it, eqD_ti, eqD_ni, eqD_in, eqDs_nn, eqDs_cc, eqDs_nc, eqDs_cn, cmpD, cmpDs, depD, depDs, isNon, isNR, chainE, tvE, andV, orV, notV, ifE, slEV, ixR, callV, lenC, isiC, tyN, pick, retEV, callP, argD, argDs, seqS, bkS, ctS, exprS, retS, retNS, ifS, evSl, setS, SK.loop, gN, gNil, gCons, gT, asgS, parS, defF, defK, raiseS, absC, divmodC, mmC, stL, itL, itT, itR1, itR2, itE, shL, itZ, itV, forS, evD, methL, appL, clrL, popL, insL, trL, extL, setixS, argS, argSs, callI, callN, hereA, nextA, negE, itS, wipeR, compE, yesT, seqD, listC, tupC, numd, zipd, nxS, frSl, retSl, retSls, retOk, retOks, tryAsS, tryOnlyS, lookB, kinE, xfE, lookF, frzE, isTR, isTB, allC, blsD, gU, raiseIS, at0, at1, at2, at3, lrE, sortC, intC, intsD, slE, intO, eqXR, slX, addT, repT, inR, cmpO, heldR, appT, lrE, sortC, intC, intsD, slE, intO, eqXR, slX, addT, repT, compX, compDx, neYR, lrevE, inTR, strC, intTC, strE, splS, joiS, slZ, itC, inSR, strsD, repS, compZ, compDz, kb, dueD, cw, ew]
    simp [dueD] at hk
    exact ⟨by omega, hk⟩
  | error n =>
    simp [sf_law_r2, sf_law_r1, cE, vE, bE, rE, fE, mE, bin, nilA, consA, bT, andT, orT, notT, tupE, lstE, allV, allM, okB, intR, addR, asL, asT, asD, eqR, eqD_nn, eqD_bb, eqD_ii, eqD_ss, eqD_tt, eqD_ll, eqD_bi, eqD_ib, eqD_nt, eqD_tn, eqD_it, eqD_ti, eqD_ni, eqD_in, eqDs_nn, eqDs_cc, eqDs_nc, eqDs_cn, cmpD, cmpDs, depD, depDs, isNon, isNR, chainE, tvE, andV, orV, notV, ifE, slEV, ixR, callV, lenC, isiC, tyN, pick, retEV, callP, argD, argDs, seqS, bkS, ctS, exprS, retS, retNS, ifS, evSl, setS, SK.loop, gN, gNil, gCons, gT, asgS, parS, defF, defK, raiseS, absC, divmodC, mmC, stL, itL, itT, itR1, itR2, itE, shL, itZ, itV, forS, evD, methL, appL, clrL, popL, insL, trL, extL, setixS, argS, argSs, callI, callN, hereA, nextA, negE, itS, wipeR, compE, yesT, seqD, listC, tupC, numd, zipd, nxS, frSl, retSl, retSls, retOk, retOks, tryAsS, tryOnlyS, lookB, kinE, xfE, lookF, frzE, isTR, isTB, allC, blsD, gU, raiseIS, at0, at1, at2, at3, lrE, sortC, intC, intsD, slE, intO, eqXR, slX, addT, repT, inR, cmpO, heldR, appT, lrE, sortC, intC, intsD, slE, intO, eqXR, slX, addT, repT, compX, compDx, neYR, lrevE, inTR, strC, intTC, strE, splS, joiS, slZ, itC, inSR, strsD, repS, compZ, compDz, kb, dueD, F__law_whole, F_is_whole, isI]
    simp [dueD] at hk
    exact hk
theorem r4_ok {l : List Nat} (hl : l.length ≤ 100000) (hk : ∀ s6 s7, k.nx [s0, s1, s2, s3, s4, .v (strL l), s6, s7, s8]) : sf_law_r4 [s0, s1, s2, s3, s4, .v (strL l), s6, s7, s8] k := by
  simp [sf_law_r4, cE, vE, bE, rE, fE, mE, bin, nilA, consA, bT, andT, orT, notT, tupE, lstE, allV, allM, okB, intR, addR, asL, asT, asD, eqR, eqD_nn, eqD_bb, eqD_ii, eqD_ss, eqD_tt, eqD_ll, eqD_bi, eqD_ib, eqD_nt, eqD_tn, eqD_it, eqD_ti, eqD_ni, eqD_in, eqDs_nn, eqDs_cc, eqDs_nc, eqDs_cn, cmpD, cmpDs, depD, depDs, isNon, isNR, chainE, tvE, andV, orV, notV, ifE, slEV, ixR, callV, lenC, isiC, tyN, pick, retEV, callP, argD, argDs, seqS, bkS, ctS, exprS, retS, retNS, ifS, evSl, setS, SK.loop, gN, gNil, gCons, gT, asgS, parS, defF, defK, raiseS, absC, divmodC, mmC, stL, itL, itT, itR1, itR2, itE, shL, itZ, itV, forS, evD, methL, appL, clrL, popL, insL, trL, extL, setixS, argS, argSs, callI, callN, hereA, nextA, negE, itS, wipeR, compE, yesT, seqD, listC, tupC, numd, zipd, nxS, frSl, retSl, retSls, retOk, retOks, tryAsS, tryOnlyS, lookB, kinE, xfE, lookF, frzE, isTR, isTB, allC, blsD, gU, raiseIS, at0, at1, at2, at3, lrE, sortC, intC, intsD, slE, intO, eqXR, slX, addT, repT, inR, cmpO, heldR, appT, lrE, sortC, intC, intsD, slE, intO, eqXR, slX, addT, repT, compX, compDx, neYR, lrevE, inTR, strC, intTC, strE, splS, joiS, slZ, itC, inSR, strsD, repS, compZ, compDz]
  refine told_due hl ?_
  simp [cE, vE, bE, rE, fE, mE, bin, nilA, consA, bT, andT, orT, notT, tupE, lstE, allV, allM, okB, intR, addR, asL, asT, asD, eqR, eqD_nn, eqD_bb, eqD_ii, eqD_ss, eqD_tt, eqD_ll, eqD_bi, eqD_ib, eqD_nt, eqD_tn, eqD_it, eqD_ti, eqD_ni, eqD_in, eqDs_nn, eqDs_cc, eqDs_nc, eqDs_cn, cmpD, cmpDs, depD, depDs, isNon, isNR, chainE, tvE, andV, orV, notV, ifE, slEV, ixR, callV, lenC, isiC, tyN, pick, retEV, callP, argD, argDs, seqS, bkS, ctS, exprS, retS, retNS, ifS, evSl, setS, SK.loop, gN, gNil, gCons, gT, asgS, parS, defF, defK, raiseS, absC, divmodC, mmC, stL, itL, itT, itR1, itR2, itE, shL, itZ, itV, forS, evD, methL, appL, clrL, popL, insL, trL, extL, setixS, argS, argSs, callI, callN, hereA, nextA, negE, itS, wipeR, compE, yesT, seqD, listC, tupC, numd, zipd, nxS, frSl, retSl, retSls, retOk, retOks, tryAsS, tryOnlyS, lookB, kinE, xfE, lookF, frzE, isTR, isTB, allC, blsD, gU, raiseIS, at0, at1, at2, at3, lrE, sortC, intC, intsD, slE, intO, eqXR, slX, addT, repT, inR, cmpO, heldR, appT, lrE, sortC, intC, intsD, slE, intO, eqXR, slX, addT, repT, compX, compDx, neYR, lrevE, inTR, strC, intTC, strE, splS, joiS, slZ, itC, inSR, strsD, repS, compZ, compDz]
  have e : sf_law_r3 [s0, s1, s2, s3, s4, .v (strL l), .v (dueD (readL l)), s7, s8] k := by
    simp [sf_law_r3, cE, vE, bE, rE, fE, mE, bin, nilA, consA, bT, andT, orT, notT, tupE, lstE, allV, allM, okB, intR, addR, asL, asT, asD, eqR, eqD_nn, eqD_bb, eqD_ii, eqD_ss, eqD_tt, eqD_ll, eqD_bi, eqD_ib, eqD_nt, eqD_tn, eqD_it, eqD_ti, eqD_ni, eqD_in, eqDs_nn, eqDs_cc, eqDs_nc, eqDs_cn, cmpD, cmpDs, depD, depDs, isNon, isNR, chainE, tvE, andV, orV, notV, ifE, slEV, ixR, callV, lenC, isiC, tyN, pick, retEV, callP, argD, argDs, seqS, bkS, ctS, exprS, retS, retNS, ifS, evSl, setS, SK.loop, gN, gNil, gCons, gT, asgS, parS, defF, defK, raiseS, absC, divmodC, mmC, stL, itL, itT, itR1, itR2, itE, shL, itZ, itV, forS, evD, methL, appL, clrL, popL, insL, trL, extL, setixS, argS, argSs, callI, callN, hereA, nextA, negE, itS, wipeR, compE, yesT, seqD, listC, tupC, numd, zipd, nxS, frSl, retSl, retSls, retOk, retOks, tryAsS, tryOnlyS, lookB, kinE, xfE, lookF, frzE, isTR, isTB, allC, blsD, gU, raiseIS, at0, at1, at2, at3, lrE, sortC, intC, intsD, slE, intO, eqXR, slX, addT, repT, inR, cmpO, heldR, appT, lrE, sortC, intC, intsD, slE, intO, eqXR, slX, addT, repT, compX, compDx, neYR, lrevE, inTR, strC, intTC, strE, splS, joiS, slZ, itC, inSR, strsD, repS, compZ, compDz]
    refine ⟨l, rfl, hl, ?_⟩
    have r2 := r2_ok (k := k) (R := readL l) (hk _ _)
    cases e : readL l with
    | ok bs =>
      rw [e] at r2
      simp [cE, vE, bE, rE, fE, mE, bin, nilA, consA, bT, andT, orT, notT, tupE, lstE, allV, allM, okB, intR, addR, asL, asT, asD, eqR, eqD_nn, eqD_bb, eqD_ii, eqD_ss, eqD_tt, eqD_ll, eqD_bi, eqD_ib, eqD_nt, eqD_tn, eqD_it, eqD_ti, eqD_ni, eqD_in, eqDs_nn, eqDs_cc, eqDs_nc, eqDs_cn, cmpD, cmpDs, depD, depDs, isNon, isNR, chainE, tvE, andV, orV, notV, ifE, slEV, ixR, callV, lenC, isiC, tyN, pick, retEV, callP, argD, argDs, seqS, bkS, ctS, exprS, retS, retNS, ifS, evSl, setS, SK.loop, gN, gNil, gCons, gT, asgS, parS, defF, defK, raiseS, absC, divmodC, mmC, stL, itL, itT, itR1, itR2, itE, shL, itZ, itV, forS, evD, methL, appL, clrL, popL, insL, trL, extL, setixS, argS, argSs, callI, callN, hereA, nextA, negE, itS, wipeR, compE, yesT, seqD, listC, tupC, numd, zipd, nxS, frSl, retSl, retSls, retOk, retOks, tryAsS, tryOnlyS, lookB, kinE, xfE, lookF, frzE, isTR, isTB, allC, blsD, gU, raiseIS, at0, at1, at2, at3, lrE, sortC, intC, intsD, slE, intO, eqXR, slX, addT, repT, inR, cmpO, heldR, appT, lrE, sortC, intC, intsD, slE, intO, eqXR, slX, addT, repT, compX, compDx, neYR, lrevE, inTR, strC, intTC, strE, splS, joiS, slZ, itC, inSR, strsD, repS, compZ, compDz]
      exact r2
    | error n =>
      rw [e] at r2
      simp [cE, vE, bE, rE, fE, mE, bin, nilA, consA, bT, andT, orT, notT, tupE, lstE, allV, allM, okB, intR, addR, asL, asT, asD, eqR, eqD_nn, eqD_bb, eqD_ii, eqD_ss, eqD_tt, eqD_ll, eqD_bi, eqD_ib, eqD_nt, eqD_tn, eqD_it, eqD_ti, eqD_ni, eqD_in, eqDs_nn, eqDs_cc, eqDs_nc, eqDs_cn, cmpD, cmpDs, depD, depDs, isNon, isNR, chainE, tvE, andV, orV, notV, ifE, slEV, ixR, callV, lenC, isiC, tyN, pick, retEV, callP, argD, argDs, seqS, bkS, ctS, exprS, retS, retNS, ifS, evSl, setS, SK.loop, gN, gNil, gCons, gT, asgS, parS, defF, defK, raiseS, absC, divmodC, mmC, stL, itL, itT, itR1, itR2, itE, shL, itZ, itV, forS, evD, methL, appL, clrL, popL, insL, trL, extL, setixS, argS, argSs, callI, callN, hereA, nextA, negE, itS, wipeR, compE, yesT, seqD, listC, tupC, numd, zipd, nxS, frSl, retSl, retSls, retOk, retOks, tryAsS, tryOnlyS, lookB, kinE, xfE, lookF, frzE, isTR, isTB, allC, blsD, gU, raiseIS, at0, at1, at2, at3, lrE, sortC, intC, intsD, slE, intO, eqXR, slX, addT, repT, inR, cmpO, heldR, appT, lrE, sortC, intC, intsD, slE, intO, eqXR, slX, addT, repT, compX, compDx, neYR, lrevE, inTR, strC, intTC, strE, splS, joiS, slZ, itC, inSR, strsD, repS, compZ, compDz]
      exact r2
  exact e
theorem noStr_odd {d : D} (h : oddOk d) : (∃ l : List Nat, d = strL l) ∨ noStr d = true := by
  rcases h with rfl | rfl | rfl | rfl | rfl | rfl | rfl | rfl | rfl
  · exact .inr rfl
  · exact .inr rfl
  · exact .inr rfl
  · exact .inl ⟨_, rfl⟩
  · exact .inl ⟨_, rfl⟩
  · exact .inr rfl
  · exact .inr rfl
  · exact .inr rfl
  · exact .inr rfl
theorem told_no {d : D} {K : EV → List Sl → Prop} {E : Exc → List Sl → Prop} (h1 : noStr d = true) (h : K (.v (.int 0)) []) : F__law_told [.v d] K E := ⟨_, rfl, .inl ⟨h1, h⟩⟩
theorem read_none : readL [] = .error 0 := rfl
theorem r5_ok {bs : List Bw} (hb : bs.length ≤ 12 ∧ ∀ b ∈ bs, WkT b) (hk : k.nx [s0, s1, s2, .v (.lst true (bs.map wD)), s4, s5, s6, s7, s8]) : sf_law_r5 [s0, s1, s2, .v (.lst true (bs.map wD)), s4, s5, s6, s7, s8] k := by
  simp [sf_law_r5, cE, vE, bE, rE, fE, mE, bin, nilA, consA, bT, andT, orT, notT, tupE, lstE, allV, allM, okB, intR, addR, asL, asT, asD, eqR, eqD_nn, eqD_bb, eqD_ii, eqD_ss, eqD_tt, eqD_ll, eqD_bi, eqD_ib, eqD_nt, eqD_tn, eqD_it, eqD_ti, eqD_ni, eqD_in, eqDs_nn, eqDs_cc, eqDs_nc, eqDs_cn, cmpD, cmpDs, depD, depDs, isNon, isNR, chainE, tvE, andV, orV, notV, ifE, slEV, ixR, callV, lenC, isiC, tyN, pick, retEV, callP, argD, argDs, seqS, bkS, ctS, exprS, retS, retNS, ifS, evSl, setS, SK.loop, gN, gNil, gCons, gT, asgS, parS, defF, defK, raiseS, absC, divmodC, mmC, stL, itL, itT, itR1, itR2, itE, shL, itZ, itV, forS, evD, methL, appL, clrL, popL, insL, trL, extL, setixS, argS, argSs, callI, callN, hereA, nextA, negE, itS, wipeR, compE, yesT, seqD, listC, tupC, numd, zipd, nxS, frSl, retSl, retSls, retOk, retOks, tryAsS, tryOnlyS, lookB, kinE, xfE, lookF, frzE, isTR, isTB, allC, blsD, gU, raiseIS, at0, at1, at2, at3, lrE, sortC, intC, intsD, slE, intO, eqXR, slX, addT, repT, inR, cmpO, heldR, appT, lrE, sortC, intC, intsD, slE, intO, eqXR, slX, addT, repT, compX, compDx, neYR, lrevE, inTR, strC, intTC, strE, splS, joiS, slZ, itC, inSR, strsD, repS, compZ, compDz, s_none]
  refine ⟨true, bs, rfl, hb, ?_⟩
  simp [cE, vE, bE, rE, fE, mE, bin, nilA, consA, bT, andT, orT, notT, tupE, lstE, allV, allM, okB, intR, addR, asL, asT, asD, eqR, eqD_nn, eqD_bb, eqD_ii, eqD_ss, eqD_tt, eqD_ll, eqD_bi, eqD_ib, eqD_nt, eqD_tn, eqD_it, eqD_ti, eqD_ni, eqD_in, eqDs_nn, eqDs_cc, eqDs_nc, eqDs_cn, cmpD, cmpDs, depD, depDs, isNon, isNR, chainE, tvE, andV, orV, notV, ifE, slEV, ixR, callV, lenC, isiC, tyN, pick, retEV, callP, argD, argDs, seqS, bkS, ctS, exprS, retS, retNS, ifS, evSl, setS, SK.loop, gN, gNil, gCons, gT, asgS, parS, defF, defK, raiseS, absC, divmodC, mmC, stL, itL, itT, itR1, itR2, itE, shL, itZ, itV, forS, evD, methL, appL, clrL, popL, insL, trL, extL, setixS, argS, argSs, callI, callN, hereA, nextA, negE, itS, wipeR, compE, yesT, seqD, listC, tupC, numd, zipd, nxS, frSl, retSl, retSls, retOk, retOks, tryAsS, tryOnlyS, lookB, kinE, xfE, lookF, frzE, isTR, isTB, allC, blsD, gU, raiseIS, at0, at1, at2, at3, lrE, sortC, intC, intsD, slE, intO, eqXR, slX, addT, repT, inR, cmpO, heldR, appT, lrE, sortC, intC, intsD, slE, intO, eqXR, slX, addT, repT, compX, compDx, neYR, lrevE, inTR, strC, intTC, strE, splS, joiS, slZ, itC, inSR, strsD, repS, compZ, compDz]
  refine told_no rfl ?_
  simp [cE, vE, bE, rE, fE, mE, bin, nilA, consA, bT, andT, orT, notT, tupE, lstE, allV, allM, okB, intR, addR, asL, asT, asD, eqR, eqD_nn, eqD_bb, eqD_ii, eqD_ss, eqD_tt, eqD_ll, eqD_bi, eqD_ib, eqD_nt, eqD_tn, eqD_it, eqD_ti, eqD_ni, eqD_in, eqDs_nn, eqDs_cc, eqDs_nc, eqDs_cn, cmpD, cmpDs, depD, depDs, isNon, isNR, chainE, tvE, andV, orV, notV, ifE, slEV, ixR, callV, lenC, isiC, tyN, pick, retEV, callP, argD, argDs, seqS, bkS, ctS, exprS, retS, retNS, ifS, evSl, setS, SK.loop, gN, gNil, gCons, gT, asgS, parS, defF, defK, raiseS, absC, divmodC, mmC, stL, itL, itT, itR1, itR2, itE, shL, itZ, itV, forS, evD, methL, appL, clrL, popL, insL, trL, extL, setixS, argS, argSs, callI, callN, hereA, nextA, negE, itS, wipeR, compE, yesT, seqD, listC, tupC, numd, zipd, nxS, frSl, retSl, retSls, retOk, retOks, tryAsS, tryOnlyS, lookB, kinE, xfE, lookF, frzE, isTR, isTB, allC, blsD, gU, raiseIS, at0, at1, at2, at3, lrE, sortC, intC, intsD, slE, intO, eqXR, slX, addT, repT, inR, cmpO, heldR, appT, lrE, sortC, intC, intsD, slE, intO, eqXR, slX, addT, repT, compX, compDx, neYR, lrevE, inTR, strC, intTC, strE, splS, joiS, slZ, itC, inSR, strsD, repS, compZ, compDz]
  refine told_due (l := []) (by simp) ?_
  rw [read_none]
  simp [cE, vE, bE, rE, fE, mE, bin, nilA, consA, bT, andT, orT, notT, tupE, lstE, allV, allM, okB, intR, addR, asL, asT, asD, eqR, eqD_nn, eqD_bb, eqD_ii, eqD_ss, eqD_tt, eqD_ll, eqD_bi, eqD_ib, eqD_nt, eqD_tn, eqD_it, eqD_ti, eqD_ni, eqD_in, eqDs_nn, eqDs_cc, eqDs_nc, eqDs_cn, cmpD, cmpDs, depD, depDs, isNon, isNR, chainE, tvE, andV, orV, notV, ifE, slEV, ixR, callV, lenC, isiC, tyN, pick, retEV, callP, argD, argDs, seqS, bkS, ctS, exprS, retS, retNS, ifS, evSl, setS, SK.loop, gN, gNil, gCons, gT, asgS, parS, defF, defK, raiseS, absC, divmodC, mmC, stL, itL, itT, itR1, itR2, itE, shL, itZ, itV, forS, evD, methL, appL, clrL, popL, insL, trL, extL, setixS, argS, argSs, callI, callN, hereA, nextA, negE, itS, wipeR, compE, yesT, seqD, listC, tupC, numd, zipd, nxS, frSl, retSl, retSls, retOk, retOks, tryAsS, tryOnlyS, lookB, kinE, xfE, lookF, frzE, isTR, isTB, allC, blsD, gU, raiseIS, at0, at1, at2, at3, lrE, sortC, intC, intsD, slE, intO, eqXR, slX, addT, repT, inR, cmpO, heldR, appT, lrE, sortC, intC, intsD, slE, intO, eqXR, slX, addT, repT, compX, compDx, neYR, lrevE, inTR, strC, intTC, strE, splS, joiS, slZ, itC, inSR, strsD, repS, compZ, compDz, dueD]
  exact hk
theorem r6_ok {bs : List Bw} {d : D} (hd : oddOk d) (hb : bs.length ≤ 12 ∧ ∀ b ∈ bs, WkT b) (hk : k.nx [s0, s1, s2, .v (.lst true (bs.map wD)), s4, s5, s6, s7, .v d]) : sf_law_r6 [s0, s1, s2, .v (.lst true (bs.map wD)), s4, s5, s6, s7, .v d] k := by
  have r5 := r5_ok (k := k) hb hk
  rcases noStr_odd hd with ⟨l, rfl⟩ | hn
  · simp [sf_law_r6, cE, vE, bE, rE, fE, mE, bin, nilA, consA, bT, andT, orT, notT, tupE, lstE, allV, allM, okB, intR, addR, asL, asT, asD, eqR, eqD_nn, eqD_bb, eqD_ii, eqD_ss, eqD_tt, eqD_ll, eqD_bi, eqD_ib, eqD_nt, eqD_tn, eqD_it, eqD_ti, eqD_ni, eqD_in, eqDs_nn, eqDs_cc, eqDs_nc, eqDs_cn, cmpD, cmpDs, depD, depDs, isNon, isNR, chainE, tvE, andV, orV, notV, ifE, slEV, ixR, callV, lenC, isiC, tyN, pick, retEV, callP, argD, argDs, seqS, bkS, ctS, exprS, retS, retNS, ifS, evSl, setS, SK.loop, gN, gNil, gCons, gT, asgS, parS, defF, defK, raiseS, absC, divmodC, mmC, stL, itL, itT, itR1, itR2, itE, shL, itZ, itV, forS, evD, methL, appL, clrL, popL, insL, trL, extL, setixS, argS, argSs, callI, callN, hereA, nextA, negE, itS, wipeR, compE, yesT, seqD, listC, tupC, numd, zipd, nxS, frSl, retSl, retSls, retOk, retOks, tryAsS, tryOnlyS, lookB, kinE, xfE, lookF, frzE, isTR, isTB, allC, blsD, gU, raiseIS, at0, at1, at2, at3, lrE, sortC, intC, intsD, slE, intO, eqXR, slX, addT, repT, inR, cmpO, heldR, appT, lrE, sortC, intC, intsD, slE, intO, eqXR, slX, addT, repT, compX, compDx, neYR, lrevE, inTR, strC, intTC, strE, splS, joiS, slZ, itC, inSR, strsD, repS, compZ, compDz, kb]
    exact r5
  · have r : F__law_told [.v d] (fun x _ => F__law_told [.v d] (fun x _ => k.nx [s0, s1, s2, .v (.lst true (bs.map wD)), s4, s5, s6, s7, .v d]) (fun _ _ => False)) (fun _ _ => False) := told_no hn (told_no hn hk)
    cases d with
    | str _ => cases hn
    | ty _ => cases hn
    | fn _ => cases hn
    | int i => simp [sf_law_r6, cE, vE, bE, rE, fE, mE, bin, nilA, consA, bT, andT, orT, notT, tupE, lstE, allV, allM, okB, intR, addR, asL, asT, asD, eqR, eqD_nn, eqD_bb, eqD_ii, eqD_ss, eqD_tt, eqD_ll, eqD_bi, eqD_ib, eqD_nt, eqD_tn, eqD_it, eqD_ti, eqD_ni, eqD_in, eqDs_nn, eqDs_cc, eqDs_nc, eqDs_cn, cmpD, cmpDs, depD, depDs, isNon, isNR, chainE, tvE, andV, orV, notV, ifE, slEV, ixR, callV, lenC, isiC, tyN, pick, retEV, callP, argD, argDs, seqS, bkS, ctS, exprS, retS, retNS, ifS, evSl, setS, SK.loop, gN, gNil, gCons, gT, asgS, parS, defF, defK, raiseS, absC, divmodC, mmC, stL, itL, itT, itR1, itR2, itE, shL, itZ, itV, forS, evD, methL, appL, clrL, popL, insL, trL, extL, setixS, argS, argSs, callI, callN, hereA, nextA, negE, itS, wipeR, compE, yesT, seqD, listC, tupC, numd, zipd, nxS, frSl, retSl, retSls, retOk, retOks, tryAsS, tryOnlyS, lookB, kinE, xfE, lookF, frzE, isTR, isTB, allC, blsD, gU, raiseIS, at0, at1, at2, at3, lrE, sortC, intC, intsD, slE, intO, eqXR, slX, addT, repT, inR, cmpO, heldR, appT, lrE, sortC, intC, intsD, slE, intO, eqXR, slX, addT, repT, compX, compDx, neYR, lrevE, inTR, strC, intTC, strE, splS, joiS, slZ, itC, inSR, strsD, repS, compZ, compDz, kb]; refine told_no rfl ?_; simp [cE, vE, bE, rE, fE, mE, bin, nilA, consA, bT, andT, orT, notT, tupE, lstE, allV, allM, okB, intR, addR, asL, asT, asD, eqR, eqD_nn, eqD_bb, eqD_ii, eqD_ss, eqD_tt, eqD_ll, eqD_bi, eqD_ib, eqD_nt, eqD_tn, eqD_it, eqD_ti, eqD_ni, eqD_in, eqDs_nn, eqDs_cc, eqDs_nc, eqDs_cn, cmpD, cmpDs, depD, depDs, isNon, isNR, chainE, tvE, andV, orV, notV, ifE, slEV, ixR, callV, lenC, isiC, tyN, pick, retEV, callP, argD, argDs, seqS, bkS, ctS, exprS, retS, retNS, ifS, evSl, setS, SK.loop, gN, gNil, gCons, gT, asgS, parS, defF, defK, raiseS, absC, divmodC, mmC, stL, itL, itT, itR1, itR2, itE, shL, itZ, itV, forS, evD, methL, appL, clrL, popL, insL, trL, extL, setixS, argS, argSs, callI, callN, hereA, nextA, negE, itS, wipeR, compE, yesT, seqD, listC, tupC, numd, zipd, nxS, frSl, retSl, retSls, retOk, retOks, tryAsS, tryOnlyS, lookB, kinE, xfE, lookF, frzE, isTR, isTB, allC, blsD, gU, raiseIS, at0, at1, at2, at3, lrE, sortC, intC, intsD, slE, intO, eqXR, slX, addT, repT, inR, cmpO, heldR, appT, lrE, sortC, intC, intsD, slE, intO, eqXR, slX, addT, repT, compX, compDx, neYR, lrevE, inTR, strC, intTC, strE, splS, joiS, slZ, itC, inSR, strsD, repS, compZ, compDz]; refine told_no rfl ?_; simp [cE, vE, bE, rE, fE, mE, bin, nilA, consA, bT, andT, orT, notT, tupE, lstE, allV, allM, okB, intR, addR, asL, asT, asD, eqR, eqD_nn, eqD_bb, eqD_ii, eqD_ss, eqD_tt, eqD_ll, eqD_bi, eqD_ib, eqD_nt, eqD_tn, eqD_it, eqD_ti, eqD_ni, eqD_in, eqDs_nn, eqDs_cc, eqDs_nc, eqDs_cn, cmpD, cmpDs, depD, depDs, isNon, isNR, chainE, tvE, andV, orV, notV, ifE, slEV, ixR, callV, lenC, isiC, tyN, pick, retEV, callP, argD, argDs, seqS, bkS, ctS, exprS, retS, retNS, ifS, evSl, setS, SK.loop, gN, gNil, gCons, gT, asgS, parS, defF, defK, raiseS, absC, divmodC, mmC, stL, itL, itT, itR1, itR2, itE, shL, itZ, itV, forS, evD, methL, appL, clrL, popL, insL, trL, extL, setixS, argS, argSs, callI, callN, hereA, nextA, negE, itS, wipeR, compE, yesT, seqD, listC, tupC, numd, zipd, nxS, frSl, retSl, retSls, retOk, retOks, tryAsS, tryOnlyS, lookB, kinE, xfE, lookF, frzE, isTR, isTB, allC, blsD, gU, raiseIS, at0, at1, at2, at3, lrE, sortC, intC, intsD, slE, intO, eqXR, slX, addT, repT, inR, cmpO, heldR, appT, lrE, sortC, intC, intsD, slE, intO, eqXR, slX, addT, repT, compX, compDx, neYR, lrevE, inTR, strC, intTC, strE, splS, joiS, slZ, itC, inSR, strsD, repS, compZ, compDz, F__law_whole, F_is_whole, isI]; exact r5
    | bl b => simp [sf_law_r6, cE, vE, bE, rE, fE, mE, bin, nilA, consA, bT, andT, orT, notT, tupE, lstE, allV, allM, okB, intR, addR, asL, asT, asD, eqR, eqD_nn, eqD_bb, eqD_ii, eqD_ss, eqD_tt, eqD_ll, eqD_bi, eqD_ib, eqD_nt, eqD_tn, eqD_it, eqD_ti, eqD_ni, eqD_in, eqDs_nn, eqDs_cc, eqDs_nc, eqDs_cn, cmpD, cmpDs, depD, depDs, isNon, isNR, chainE, tvE, andV, orV, notV, ifE, slEV, ixR, callV, lenC, isiC, tyN, pick, retEV, callP, argD, argDs, seqS, bkS, ctS, exprS, retS, retNS, ifS, evSl, setS, SK.loop, gN, gNil, gCons, gT, asgS, parS, defF, defK, raiseS, absC, divmodC, mmC, stL, itL, itT, itR1, itR2, itE, shL, itZ, itV, forS, evD, methL, appL, clrL, popL, insL, trL, extL, setixS, argS, argSs, callI, callN, hereA, nextA, negE, itS, wipeR, compE, yesT, seqD, listC, tupC, numd, zipd, nxS, frSl, retSl, retSls, retOk, retOks, tryAsS, tryOnlyS, lookB, kinE, xfE, lookF, frzE, isTR, isTB, allC, blsD, gU, raiseIS, at0, at1, at2, at3, lrE, sortC, intC, intsD, slE, intO, eqXR, slX, addT, repT, inR, cmpO, heldR, appT, lrE, sortC, intC, intsD, slE, intO, eqXR, slX, addT, repT, compX, compDx, neYR, lrevE, inTR, strC, intTC, strE, splS, joiS, slZ, itC, inSR, strsD, repS, compZ, compDz, kb]; refine told_no rfl ?_; simp [cE, vE, bE, rE, fE, mE, bin, nilA, consA, bT, andT, orT, notT, tupE, lstE, allV, allM, okB, intR, addR, asL, asT, asD, eqR, eqD_nn, eqD_bb, eqD_ii, eqD_ss, eqD_tt, eqD_ll, eqD_bi, eqD_ib, eqD_nt, eqD_tn, eqD_it, eqD_ti, eqD_ni, eqD_in, eqDs_nn, eqDs_cc, eqDs_nc, eqDs_cn, cmpD, cmpDs, depD, depDs, isNon, isNR, chainE, tvE, andV, orV, notV, ifE, slEV, ixR, callV, lenC, isiC, tyN, pick, retEV, callP, argD, argDs, seqS, bkS, ctS, exprS, retS, retNS, ifS, evSl, setS, SK.loop, gN, gNil, gCons, gT, asgS, parS, defF, defK, raiseS, absC, divmodC, mmC, stL, itL, itT, itR1, itR2, itE, shL, itZ, itV, forS, evD, methL, appL, clrL, popL, insL, trL, extL, setixS, argS, argSs, callI, callN, hereA, nextA, negE, itS, wipeR, compE, yesT, seqD, listC, tupC, numd, zipd, nxS, frSl, retSl, retSls, retOk, retOks, tryAsS, tryOnlyS, lookB, kinE, xfE, lookF, frzE, isTR, isTB, allC, blsD, gU, raiseIS, at0, at1, at2, at3, lrE, sortC, intC, intsD, slE, intO, eqXR, slX, addT, repT, inR, cmpO, heldR, appT, lrE, sortC, intC, intsD, slE, intO, eqXR, slX, addT, repT, compX, compDx, neYR, lrevE, inTR, strC, intTC, strE, splS, joiS, slZ, itC, inSR, strsD, repS, compZ, compDz]; refine told_no rfl ?_; simp [cE, vE, bE, rE, fE, mE, bin, nilA, consA, bT, andT, orT, notT, tupE, lstE, allV, allM, okB, intR, addR, asL, asT, asD, eqR, eqD_nn, eqD_bb, eqD_ii, eqD_ss, eqD_tt, eqD_ll, eqD_bi, eqD_ib, eqD_nt, eqD_tn, eqD_it, eqD_ti, eqD_ni, eqD_in, eqDs_nn, eqDs_cc, eqDs_nc, eqDs_cn, cmpD, cmpDs, depD, depDs, isNon, isNR, chainE, tvE, andV, orV, notV, ifE, slEV, ixR, callV, lenC, isiC, tyN, pick, retEV, callP, argD, argDs, seqS, bkS, ctS, exprS, retS, retNS, ifS, evSl, setS, SK.loop, gN, gNil, gCons, gT, asgS, parS, defF, defK, raiseS, absC, divmodC, mmC, stL, itL, itT, itR1, itR2, itE, shL, itZ, itV, forS, evD, methL, appL, clrL, popL, insL, trL, extL, setixS, argS, argSs, callI, callN, hereA, nextA, negE, itS, wipeR, compE, yesT, seqD, listC, tupC, numd, zipd, nxS, frSl, retSl, retSls, retOk, retOks, tryAsS, tryOnlyS, lookB, kinE, xfE, lookF, frzE, isTR, isTB, allC, blsD, gU, raiseIS, at0, at1, at2, at3, lrE, sortC, intC, intsD, slE, intO, eqXR, slX, addT, repT, inR, cmpO, heldR, appT, lrE, sortC, intC, intsD, slE, intO, eqXR, slX, addT, repT, compX, compDx, neYR, lrevE, inTR, strC, intTC, strE, splS, joiS, slZ, itC, inSR, strsD, repS, compZ, compDz, F__law_whole, F_is_whole, isI]; exact r5
    | non => simp [sf_law_r6, cE, vE, bE, rE, fE, mE, bin, nilA, consA, bT, andT, orT, notT, tupE, lstE, allV, allM, okB, intR, addR, asL, asT, asD, eqR, eqD_nn, eqD_bb, eqD_ii, eqD_ss, eqD_tt, eqD_ll, eqD_bi, eqD_ib, eqD_nt, eqD_tn, eqD_it, eqD_ti, eqD_ni, eqD_in, eqDs_nn, eqDs_cc, eqDs_nc, eqDs_cn, cmpD, cmpDs, depD, depDs, isNon, isNR, chainE, tvE, andV, orV, notV, ifE, slEV, ixR, callV, lenC, isiC, tyN, pick, retEV, callP, argD, argDs, seqS, bkS, ctS, exprS, retS, retNS, ifS, evSl, setS, SK.loop, gN, gNil, gCons, gT, asgS, parS, defF, defK, raiseS, absC, divmodC, mmC, stL, itL, itT, itR1, itR2, itE, shL, itZ, itV, forS, evD, methL, appL, clrL, popL, insL, trL, extL, setixS, argS, argSs, callI, callN, hereA, nextA, negE, itS, wipeR, compE, yesT, seqD, listC, tupC, numd, zipd, nxS, frSl, retSl, retSls, retOk, retOks, tryAsS, tryOnlyS, lookB, kinE, xfE, lookF, frzE, isTR, isTB, allC, blsD, gU, raiseIS, at0, at1, at2, at3, lrE, sortC, intC, intsD, slE, intO, eqXR, slX, addT, repT, inR, cmpO, heldR, appT, lrE, sortC, intC, intsD, slE, intO, eqXR, slX, addT, repT, compX, compDx, neYR, lrevE, inTR, strC, intTC, strE, splS, joiS, slZ, itC, inSR, strsD, repS, compZ, compDz, kb]; refine told_no rfl ?_; simp [cE, vE, bE, rE, fE, mE, bin, nilA, consA, bT, andT, orT, notT, tupE, lstE, allV, allM, okB, intR, addR, asL, asT, asD, eqR, eqD_nn, eqD_bb, eqD_ii, eqD_ss, eqD_tt, eqD_ll, eqD_bi, eqD_ib, eqD_nt, eqD_tn, eqD_it, eqD_ti, eqD_ni, eqD_in, eqDs_nn, eqDs_cc, eqDs_nc, eqDs_cn, cmpD, cmpDs, depD, depDs, isNon, isNR, chainE, tvE, andV, orV, notV, ifE, slEV, ixR, callV, lenC, isiC, tyN, pick, retEV, callP, argD, argDs, seqS, bkS, ctS, exprS, retS, retNS, ifS, evSl, setS, SK.loop, gN, gNil, gCons, gT, asgS, parS, defF, defK, raiseS, absC, divmodC, mmC, stL, itL, itT, itR1, itR2, itE, shL, itZ, itV, forS, evD, methL, appL, clrL, popL, insL, trL, extL, setixS, argS, argSs, callI, callN, hereA, nextA, negE, itS, wipeR, compE, yesT, seqD, listC, tupC, numd, zipd, nxS, frSl, retSl, retSls, retOk, retOks, tryAsS, tryOnlyS, lookB, kinE, xfE, lookF, frzE, isTR, isTB, allC, blsD, gU, raiseIS, at0, at1, at2, at3, lrE, sortC, intC, intsD, slE, intO, eqXR, slX, addT, repT, inR, cmpO, heldR, appT, lrE, sortC, intC, intsD, slE, intO, eqXR, slX, addT, repT, compX, compDx, neYR, lrevE, inTR, strC, intTC, strE, splS, joiS, slZ, itC, inSR, strsD, repS, compZ, compDz]; refine told_no rfl ?_; simp [cE, vE, bE, rE, fE, mE, bin, nilA, consA, bT, andT, orT, notT, tupE, lstE, allV, allM, okB, intR, addR, asL, asT, asD, eqR, eqD_nn, eqD_bb, eqD_ii, eqD_ss, eqD_tt, eqD_ll, eqD_bi, eqD_ib, eqD_nt, eqD_tn, eqD_it, eqD_ti, eqD_ni, eqD_in, eqDs_nn, eqDs_cc, eqDs_nc, eqDs_cn, cmpD, cmpDs, depD, depDs, isNon, isNR, chainE, tvE, andV, orV, notV, ifE, slEV, ixR, callV, lenC, isiC, tyN, pick, retEV, callP, argD, argDs, seqS, bkS, ctS, exprS, retS, retNS, ifS, evSl, setS, SK.loop, gN, gNil, gCons, gT, asgS, parS, defF, defK, raiseS, absC, divmodC, mmC, stL, itL, itT, itR1, itR2, itE, shL, itZ, itV, forS, evD, methL, appL, clrL, popL, insL, trL, extL, setixS, argS, argSs, callI, callN, hereA, nextA, negE, itS, wipeR, compE, yesT, seqD, listC, tupC, numd, zipd, nxS, frSl, retSl, retSls, retOk, retOks, tryAsS, tryOnlyS, lookB, kinE, xfE, lookF, frzE, isTR, isTB, allC, blsD, gU, raiseIS, at0, at1, at2, at3, lrE, sortC, intC, intsD, slE, intO, eqXR, slX, addT, repT, inR, cmpO, heldR, appT, lrE, sortC, intC, intsD, slE, intO, eqXR, slX, addT, repT, compX, compDx, neYR, lrevE, inTR, strC, intTC, strE, splS, joiS, slZ, itC, inSR, strsD, repS, compZ, compDz, F__law_whole, F_is_whole, isI]; exact r5
    | tup ds => simp [sf_law_r6, cE, vE, bE, rE, fE, mE, bin, nilA, consA, bT, andT, orT, notT, tupE, lstE, allV, allM, okB, intR, addR, asL, asT, asD, eqR, eqD_nn, eqD_bb, eqD_ii, eqD_ss, eqD_tt, eqD_ll, eqD_bi, eqD_ib, eqD_nt, eqD_tn, eqD_it, eqD_ti, eqD_ni, eqD_in, eqDs_nn, eqDs_cc, eqDs_nc, eqDs_cn, cmpD, cmpDs, depD, depDs, isNon, isNR, chainE, tvE, andV, orV, notV, ifE, slEV, ixR, callV, lenC, isiC, tyN, pick, retEV, callP, argD, argDs, seqS, bkS, ctS, exprS, retS, retNS, ifS, evSl, setS, SK.loop, gN, gNil, gCons, gT, asgS, parS, defF, defK, raiseS, absC, divmodC, mmC, stL, itL, itT, itR1, itR2, itE, shL, itZ, itV, forS, evD, methL, appL, clrL, popL, insL, trL, extL, setixS, argS, argSs, callI, callN, hereA, nextA, negE, itS, wipeR, compE, yesT, seqD, listC, tupC, numd, zipd, nxS, frSl, retSl, retSls, retOk, retOks, tryAsS, tryOnlyS, lookB, kinE, xfE, lookF, frzE, isTR, isTB, allC, blsD, gU, raiseIS, at0, at1, at2, at3, lrE, sortC, intC, intsD, slE, intO, eqXR, slX, addT, repT, inR, cmpO, heldR, appT, lrE, sortC, intC, intsD, slE, intO, eqXR, slX, addT, repT, compX, compDx, neYR, lrevE, inTR, strC, intTC, strE, splS, joiS, slZ, itC, inSR, strsD, repS, compZ, compDz, kb]; refine told_no rfl ?_; simp [cE, vE, bE, rE, fE, mE, bin, nilA, consA, bT, andT, orT, notT, tupE, lstE, allV, allM, okB, intR, addR, asL, asT, asD, eqR, eqD_nn, eqD_bb, eqD_ii, eqD_ss, eqD_tt, eqD_ll, eqD_bi, eqD_ib, eqD_nt, eqD_tn, eqD_it, eqD_ti, eqD_ni, eqD_in, eqDs_nn, eqDs_cc, eqDs_nc, eqDs_cn, cmpD, cmpDs, depD, depDs, isNon, isNR, chainE, tvE, andV, orV, notV, ifE, slEV, ixR, callV, lenC, isiC, tyN, pick, retEV, callP, argD, argDs, seqS, bkS, ctS, exprS, retS, retNS, ifS, evSl, setS, SK.loop, gN, gNil, gCons, gT, asgS, parS, defF, defK, raiseS, absC, divmodC, mmC, stL, itL, itT, itR1, itR2, itE, shL, itZ, itV, forS, evD, methL, appL, clrL, popL, insL, trL, extL, setixS, argS, argSs, callI, callN, hereA, nextA, negE, itS, wipeR, compE, yesT, seqD, listC, tupC, numd, zipd, nxS, frSl, retSl, retSls, retOk, retOks, tryAsS, tryOnlyS, lookB, kinE, xfE, lookF, frzE, isTR, isTB, allC, blsD, gU, raiseIS, at0, at1, at2, at3, lrE, sortC, intC, intsD, slE, intO, eqXR, slX, addT, repT, inR, cmpO, heldR, appT, lrE, sortC, intC, intsD, slE, intO, eqXR, slX, addT, repT, compX, compDx, neYR, lrevE, inTR, strC, intTC, strE, splS, joiS, slZ, itC, inSR, strsD, repS, compZ, compDz]; refine told_no rfl ?_; simp [cE, vE, bE, rE, fE, mE, bin, nilA, consA, bT, andT, orT, notT, tupE, lstE, allV, allM, okB, intR, addR, asL, asT, asD, eqR, eqD_nn, eqD_bb, eqD_ii, eqD_ss, eqD_tt, eqD_ll, eqD_bi, eqD_ib, eqD_nt, eqD_tn, eqD_it, eqD_ti, eqD_ni, eqD_in, eqDs_nn, eqDs_cc, eqDs_nc, eqDs_cn, cmpD, cmpDs, depD, depDs, isNon, isNR, chainE, tvE, andV, orV, notV, ifE, slEV, ixR, callV, lenC, isiC, tyN, pick, retEV, callP, argD, argDs, seqS, bkS, ctS, exprS, retS, retNS, ifS, evSl, setS, SK.loop, gN, gNil, gCons, gT, asgS, parS, defF, defK, raiseS, absC, divmodC, mmC, stL, itL, itT, itR1, itR2, itE, shL, itZ, itV, forS, evD, methL, appL, clrL, popL, insL, trL, extL, setixS, argS, argSs, callI, callN, hereA, nextA, negE, itS, wipeR, compE, yesT, seqD, listC, tupC, numd, zipd, nxS, frSl, retSl, retSls, retOk, retOks, tryAsS, tryOnlyS, lookB, kinE, xfE, lookF, frzE, isTR, isTB, allC, blsD, gU, raiseIS, at0, at1, at2, at3, lrE, sortC, intC, intsD, slE, intO, eqXR, slX, addT, repT, inR, cmpO, heldR, appT, lrE, sortC, intC, intsD, slE, intO, eqXR, slX, addT, repT, compX, compDx, neYR, lrevE, inTR, strC, intTC, strE, splS, joiS, slZ, itC, inSR, strsD, repS, compZ, compDz, F__law_whole, F_is_whole, isI]; exact r5
    | lst st ds => simp [sf_law_r6, cE, vE, bE, rE, fE, mE, bin, nilA, consA, bT, andT, orT, notT, tupE, lstE, allV, allM, okB, intR, addR, asL, asT, asD, eqR, eqD_nn, eqD_bb, eqD_ii, eqD_ss, eqD_tt, eqD_ll, eqD_bi, eqD_ib, eqD_nt, eqD_tn, eqD_it, eqD_ti, eqD_ni, eqD_in, eqDs_nn, eqDs_cc, eqDs_nc, eqDs_cn, cmpD, cmpDs, depD, depDs, isNon, isNR, chainE, tvE, andV, orV, notV, ifE, slEV, ixR, callV, lenC, isiC, tyN, pick, retEV, callP, argD, argDs, seqS, bkS, ctS, exprS, retS, retNS, ifS, evSl, setS, SK.loop, gN, gNil, gCons, gT, asgS, parS, defF, defK, raiseS, absC, divmodC, mmC, stL, itL, itT, itR1, itR2, itE, shL, itZ, itV, forS, evD, methL, appL, clrL, popL, insL, trL, extL, setixS, argS, argSs, callI, callN, hereA, nextA, negE, itS, wipeR, compE, yesT, seqD, listC, tupC, numd, zipd, nxS, frSl, retSl, retSls, retOk, retOks, tryAsS, tryOnlyS, lookB, kinE, xfE, lookF, frzE, isTR, isTB, allC, blsD, gU, raiseIS, at0, at1, at2, at3, lrE, sortC, intC, intsD, slE, intO, eqXR, slX, addT, repT, inR, cmpO, heldR, appT, lrE, sortC, intC, intsD, slE, intO, eqXR, slX, addT, repT, compX, compDx, neYR, lrevE, inTR, strC, intTC, strE, splS, joiS, slZ, itC, inSR, strsD, repS, compZ, compDz, kb]; refine told_no rfl ?_; simp [cE, vE, bE, rE, fE, mE, bin, nilA, consA, bT, andT, orT, notT, tupE, lstE, allV, allM, okB, intR, addR, asL, asT, asD, eqR, eqD_nn, eqD_bb, eqD_ii, eqD_ss, eqD_tt, eqD_ll, eqD_bi, eqD_ib, eqD_nt, eqD_tn, eqD_it, eqD_ti, eqD_ni, eqD_in, eqDs_nn, eqDs_cc, eqDs_nc, eqDs_cn, cmpD, cmpDs, depD, depDs, isNon, isNR, chainE, tvE, andV, orV, notV, ifE, slEV, ixR, callV, lenC, isiC, tyN, pick, retEV, callP, argD, argDs, seqS, bkS, ctS, exprS, retS, retNS, ifS, evSl, setS, SK.loop, gN, gNil, gCons, gT, asgS, parS, defF, defK, raiseS, absC, divmodC, mmC, stL, itL, itT, itR1, itR2, itE, shL, itZ, itV, forS, evD, methL, appL, clrL, popL, insL, trL, extL, setixS, argS, argSs, callI, callN, hereA, nextA, negE, itS, wipeR, compE, yesT, seqD, listC, tupC, numd, zipd, nxS, frSl, retSl, retSls, retOk, retOks, tryAsS, tryOnlyS, lookB, kinE, xfE, lookF, frzE, isTR, isTB, allC, blsD, gU, raiseIS, at0, at1, at2, at3, lrE, sortC, intC, intsD, slE, intO, eqXR, slX, addT, repT, inR, cmpO, heldR, appT, lrE, sortC, intC, intsD, slE, intO, eqXR, slX, addT, repT, compX, compDx, neYR, lrevE, inTR, strC, intTC, strE, splS, joiS, slZ, itC, inSR, strsD, repS, compZ, compDz]; refine told_no rfl ?_; simp [cE, vE, bE, rE, fE, mE, bin, nilA, consA, bT, andT, orT, notT, tupE, lstE, allV, allM, okB, intR, addR, asL, asT, asD, eqR, eqD_nn, eqD_bb, eqD_ii, eqD_ss, eqD_tt, eqD_ll, eqD_bi, eqD_ib, eqD_nt, eqD_tn, eqD_it, eqD_ti, eqD_ni, eqD_in, eqDs_nn, eqDs_cc, eqDs_nc, eqDs_cn, cmpD, cmpDs, depD, depDs, isNon, isNR, chainE, tvE, andV, orV, notV, ifE, slEV, ixR, callV, lenC, isiC, tyN, pick, retEV, callP, argD, argDs, seqS, bkS, ctS, exprS, retS, retNS, ifS, evSl, setS, SK.loop, gN, gNil, gCons, gT, asgS, parS, defF, defK, raiseS, absC, divmodC, mmC, stL, itL, itT, itR1, itR2, itE, shL, itZ, itV, forS, evD, methL, appL, clrL, popL, insL, trL, extL, setixS, argS, argSs, callI, callN, hereA, nextA, negE, itS, wipeR, compE, yesT, seqD, listC, tupC, numd, zipd, nxS, frSl, retSl, retSls, retOk, retOks, tryAsS, tryOnlyS, lookB, kinE, xfE, lookF, frzE, isTR, isTB, allC, blsD, gU, raiseIS, at0, at1, at2, at3, lrE, sortC, intC, intsD, slE, intO, eqXR, slX, addT, repT, inR, cmpO, heldR, appT, lrE, sortC, intC, intsD, slE, intO, eqXR, slX, addT, repT, compX, compDx, neYR, lrevE, inTR, strC, intTC, strE, splS, joiS, slZ, itC, inSR, strsD, repS, compZ, compDz, F__law_whole, F_is_whole, isI]; exact r5
    | dct ks ds => simp [sf_law_r6, cE, vE, bE, rE, fE, mE, bin, nilA, consA, bT, andT, orT, notT, tupE, lstE, allV, allM, okB, intR, addR, asL, asT, asD, eqR, eqD_nn, eqD_bb, eqD_ii, eqD_ss, eqD_tt, eqD_ll, eqD_bi, eqD_ib, eqD_nt, eqD_tn, eqD_it, eqD_ti, eqD_ni, eqD_in, eqDs_nn, eqDs_cc, eqDs_nc, eqDs_cn, cmpD, cmpDs, depD, depDs, isNon, isNR, chainE, tvE, andV, orV, notV, ifE, slEV, ixR, callV, lenC, isiC, tyN, pick, retEV, callP, argD, argDs, seqS, bkS, ctS, exprS, retS, retNS, ifS, evSl, setS, SK.loop, gN, gNil, gCons, gT, asgS, parS, defF, defK, raiseS, absC, divmodC, mmC, stL, itL, itT, itR1, itR2, itE, shL, itZ, itV, forS, evD, methL, appL, clrL, popL, insL, trL, extL, setixS, argS, argSs, callI, callN, hereA, nextA, negE, itS, wipeR, compE, yesT, seqD, listC, tupC, numd, zipd, nxS, frSl, retSl, retSls, retOk, retOks, tryAsS, tryOnlyS, lookB, kinE, xfE, lookF, frzE, isTR, isTB, allC, blsD, gU, raiseIS, at0, at1, at2, at3, lrE, sortC, intC, intsD, slE, intO, eqXR, slX, addT, repT, inR, cmpO, heldR, appT, lrE, sortC, intC, intsD, slE, intO, eqXR, slX, addT, repT, compX, compDx, neYR, lrevE, inTR, strC, intTC, strE, splS, joiS, slZ, itC, inSR, strsD, repS, compZ, compDz, kb]; refine told_no rfl ?_; simp [cE, vE, bE, rE, fE, mE, bin, nilA, consA, bT, andT, orT, notT, tupE, lstE, allV, allM, okB, intR, addR, asL, asT, asD, eqR, eqD_nn, eqD_bb, eqD_ii, eqD_ss, eqD_tt, eqD_ll, eqD_bi, eqD_ib, eqD_nt, eqD_tn, eqD_it, eqD_ti, eqD_ni, eqD_in, eqDs_nn, eqDs_cc, eqDs_nc, eqDs_cn, cmpD, cmpDs, depD, depDs, isNon, isNR, chainE, tvE, andV, orV, notV, ifE, slEV, ixR, callV, lenC, isiC, tyN, pick, retEV, callP, argD, argDs, seqS, bkS, ctS, exprS, retS, retNS, ifS, evSl, setS, SK.loop, gN, gNil, gCons, gT, asgS, parS, defF, defK, raiseS, absC, divmodC, mmC, stL, itL, itT, itR1, itR2, itE, shL, itZ, itV, forS, evD, methL, appL, clrL, popL, insL, trL, extL, setixS, argS, argSs, callI, callN, hereA, nextA, negE, itS, wipeR, compE, yesT, seqD, listC, tupC, numd, zipd, nxS, frSl, retSl, retSls, retOk, retOks, tryAsS, tryOnlyS, lookB, kinE, xfE, lookF, frzE, isTR, isTB, allC, blsD, gU, raiseIS, at0, at1, at2, at3, lrE, sortC, intC, intsD, slE, intO, eqXR, slX, addT, repT, inR, cmpO, heldR, appT, lrE, sortC, intC, intsD, slE, intO, eqXR, slX, addT, repT, compX, compDx, neYR, lrevE, inTR, strC, intTC, strE, splS, joiS, slZ, itC, inSR, strsD, repS, compZ, compDz]; refine told_no rfl ?_; simp [cE, vE, bE, rE, fE, mE, bin, nilA, consA, bT, andT, orT, notT, tupE, lstE, allV, allM, okB, intR, addR, asL, asT, asD, eqR, eqD_nn, eqD_bb, eqD_ii, eqD_ss, eqD_tt, eqD_ll, eqD_bi, eqD_ib, eqD_nt, eqD_tn, eqD_it, eqD_ti, eqD_ni, eqD_in, eqDs_nn, eqDs_cc, eqDs_nc, eqDs_cn, cmpD, cmpDs, depD, depDs, isNon, isNR, chainE, tvE, andV, orV, notV, ifE, slEV, ixR, callV, lenC, isiC, tyN, pick, retEV, callP, argD, argDs, seqS, bkS, ctS, exprS, retS, retNS, ifS, evSl, setS, SK.loop, gN, gNil, gCons, gT, asgS, parS, defF, defK, raiseS, absC, divmodC, mmC, stL, itL, itT, itR1, itR2, itE, shL, itZ, itV, forS, evD, methL, appL, clrL, popL, insL, trL, extL, setixS, argS, argSs, callI, callN, hereA, nextA, negE, itS, wipeR, compE, yesT, seqD, listC, tupC, numd, zipd, nxS, frSl, retSl, retSls, retOk, retOks, tryAsS, tryOnlyS, lookB, kinE, xfE, lookF, frzE, isTR, isTB, allC, blsD, gU, raiseIS, at0, at1, at2, at3, lrE, sortC, intC, intsD, slE, intO, eqXR, slX, addT, repT, inR, cmpO, heldR, appT, lrE, sortC, intC, intsD, slE, intO, eqXR, slX, addT, repT, compX, compDx, neYR, lrevE, inTR, strC, intTC, strE, splS, joiS, slZ, itC, inSR, strsD, repS, compZ, compDz, F__law_whole, F_is_whole, isI]; exact r5
theorem r7_ok {bs : List Bw} {n : Int} (hb : bs.length ≤ 12 ∧ ∀ b ∈ bs, WkT b) (hk : ∀ s2 s8, k.nx [s0, s1, s2, .v (.lst true (bs.map wD)), s4, s5, s6, s7, s8]) : sf_law_r7 [s0, s1, .l [.int n], .v (.lst true (bs.map wD)), s4, s5, s6, s7, s8] k := by
  simp [sf_law_r7, cE, vE, bE, rE, fE, mE, bin, nilA, consA, bT, andT, orT, notT, tupE, lstE, allV, allM, okB, intR, addR, asL, asT, asD, eqR, eqD_nn, eqD_bb, eqD_ii, eqD_ss, eqD_tt, eqD_ll, eqD_bi, eqD_ib, eqD_nt, eqD_tn, eqD_it, eqD_ti, eqD_ni, eqD_in, eqDs_nn, eqDs_cc, eqDs_nc, eqDs_cn, cmpD, cmpDs, depD, depDs, isNon, isNR, chainE, tvE, andV, orV, notV, ifE, slEV, ixR, callV, lenC, isiC, tyN, pick, retEV, callP, argD, argDs, seqS, bkS, ctS, exprS, retS, retNS, ifS, evSl, setS, SK.loop, gN, gNil, gCons, gT, asgS, parS, defF, defK, raiseS, absC, divmodC, mmC, stL, itL, itT, itR1, itR2, itE, shL, itZ, itV, forS, evD, methL, appL, clrL, popL, insL, trL, extL, setixS, argS, argSs, callI, callN, hereA, nextA, negE, itS, wipeR, compE, yesT, seqD, listC, tupC, numd, zipd, nxS, frSl, retSl, retSls, retOk, retOks, tryAsS, tryOnlyS, lookB, kinE, xfE, lookF, frzE, isTR, isTB, allC, blsD, gU, raiseIS, at0, at1, at2, at3, lrE, sortC, intC, intsD, slE, intO, eqXR, slX, addT, repT, inR, cmpO, heldR, appT, lrE, sortC, intC, intsD, slE, intO, eqXR, slX, addT, repT, compX, compDx, neYR, lrevE, inTR, strC, intTC, strE, splS, joiS, slZ, itC, inSR, strsD, repS, compZ, compDz]
  refine ⟨n, rfl, fun d n' hd => ?_⟩
  simp [cE, vE, bE, rE, fE, mE, bin, nilA, consA, bT, andT, orT, notT, tupE, lstE, allV, allM, okB, intR, addR, asL, asT, asD, eqR, eqD_nn, eqD_bb, eqD_ii, eqD_ss, eqD_tt, eqD_ll, eqD_bi, eqD_ib, eqD_nt, eqD_tn, eqD_it, eqD_ti, eqD_ni, eqD_in, eqDs_nn, eqDs_cc, eqDs_nc, eqDs_cn, cmpD, cmpDs, depD, depDs, isNon, isNR, chainE, tvE, andV, orV, notV, ifE, slEV, ixR, callV, lenC, isiC, tyN, pick, retEV, callP, argD, argDs, seqS, bkS, ctS, exprS, retS, retNS, ifS, evSl, setS, SK.loop, gN, gNil, gCons, gT, asgS, parS, defF, defK, raiseS, absC, divmodC, mmC, stL, itL, itT, itR1, itR2, itE, shL, itZ, itV, forS, evD, methL, appL, clrL, popL, insL, trL, extL, setixS, argS, argSs, callI, callN, hereA, nextA, negE, itS, wipeR, compE, yesT, seqD, listC, tupC, numd, zipd, nxS, frSl, retSl, retSls, retOk, retOks, tryAsS, tryOnlyS, lookB, kinE, xfE, lookF, frzE, isTR, isTB, allC, blsD, gU, raiseIS, at0, at1, at2, at3, lrE, sortC, intC, intsD, slE, intO, eqXR, slX, addT, repT, inR, cmpO, heldR, appT, lrE, sortC, intC, intsD, slE, intO, eqXR, slX, addT, repT, compX, compDx, neYR, lrevE, inTR, strC, intTC, strE, splS, joiS, slZ, itC, inSR, strsD, repS, compZ, compDz]
  exact r6_ok hd hb (hk _ _)
theorem r8_ok {bs : List Bw} {n : Int} (hb : bs ≠ [] ∧ bs.length ≤ 5 ∧ ∀ b ∈ bs, WkT b) (hk : ∀ s2 s4 s5 s6 s7 s8, k.nx [s0, s1, s2, .v (.lst true (bs.map wD)), s4, s5, s6, s7, s8]) : sf_law_r8 [s0, s1, .l [.int n], .v (.lst true (bs.map wD)), s4, s5, s6, s7, s8] k := by
  simp [sf_law_r8, cE, vE, bE, rE, fE, mE, bin, nilA, consA, bT, andT, orT, notT, tupE, lstE, allV, allM, okB, intR, addR, asL, asT, asD, eqR, eqD_nn, eqD_bb, eqD_ii, eqD_ss, eqD_tt, eqD_ll, eqD_bi, eqD_ib, eqD_nt, eqD_tn, eqD_it, eqD_ti, eqD_ni, eqD_in, eqDs_nn, eqDs_cc, eqDs_nc, eqDs_cn, cmpD, cmpDs, depD, depDs, isNon, isNR, chainE, tvE, andV, orV, notV, ifE, slEV, ixR, callV, lenC, isiC, tyN, pick, retEV, callP, argD, argDs, seqS, bkS, ctS, exprS, retS, retNS, ifS, evSl, setS, SK.loop, gN, gNil, gCons, gT, asgS, parS, defF, defK, raiseS, absC, divmodC, mmC, stL, itL, itT, itR1, itR2, itE, shL, itZ, itV, forS, evD, methL, appL, clrL, popL, insL, trL, extL, setixS, argS, argSs, callI, callN, hereA, nextA, negE, itS, wipeR, compE, yesT, seqD, listC, tupC, numd, zipd, nxS, frSl, retSl, retSls, retOk, retOks, tryAsS, tryOnlyS, lookB, kinE, xfE, lookF, frzE, isTR, isTB, allC, blsD, gU, raiseIS, at0, at1, at2, at3, lrE, sortC, intC, intsD, slE, intO, eqXR, slX, addT, repT, inR, cmpO, heldR, appT, lrE, sortC, intC, intsD, slE, intO, eqXR, slX, addT, repT, compX, compDx, neYR, lrevE, inTR, strC, intTC, strE, splS, joiS, slZ, itC, inSR, strsD, repS, compZ, compDz]
  refine loop_inv (fun _ ρ => ∃ n s4 s5 s6 s7 s8, ρ = [s0, s1, .l [.int n], .v (.lst true (bs.map wD)), s4, s5, s6, s7, s8]) ⟨_, _, _, _, _, _, rfl⟩ ?_ ?_
  · rintro j d ρ K2 hd ⟨n, s4, s5, s6, s7, s8, rfl⟩ next
    obtain ⟨hj, rfl⟩ := rngD_get hd
    simp [cE, vE, bE, rE, fE, mE, bin, nilA, consA, bT, andT, orT, notT, tupE, lstE, allV, allM, okB, intR, addR, asL, asT, asD, eqR, eqD_nn, eqD_bb, eqD_ii, eqD_ss, eqD_tt, eqD_ll, eqD_bi, eqD_ib, eqD_nt, eqD_tn, eqD_it, eqD_ti, eqD_ni, eqD_in, eqDs_nn, eqDs_cc, eqDs_nc, eqDs_cn, cmpD, cmpDs, depD, depDs, isNon, isNR, chainE, tvE, andV, orV, notV, ifE, slEV, ixR, callV, lenC, isiC, tyN, pick, retEV, callP, argD, argDs, seqS, bkS, ctS, exprS, retS, retNS, ifS, evSl, setS, SK.loop, gN, gNil, gCons, gT, asgS, parS, defF, defK, raiseS, absC, divmodC, mmC, stL, itL, itT, itR1, itR2, itE, shL, itZ, itV, forS, evD, methL, appL, clrL, popL, insL, trL, extL, setixS, argS, argSs, callI, callN, hereA, nextA, negE, itS, wipeR, compE, yesT, seqD, listC, tupC, numd, zipd, nxS, frSl, retSl, retSls, retOk, retOks, tryAsS, tryOnlyS, lookB, kinE, xfE, lookF, frzE, isTR, isTB, allC, blsD, gU, raiseIS, at0, at1, at2, at3, lrE, sortC, intC, intsD, slE, intO, eqXR, slX, addT, repT, inR, cmpO, heldR, appT, lrE, sortC, intC, intsD, slE, intO, eqXR, slX, addT, repT, compX, compDx, neYR, lrevE, inTR, strC, intTC, strE, splS, joiS, slZ, itC, inSR, strsD, repS, compZ, compDz]
    refine ⟨n, true, bs, rfl, hb, fun l n' hl => ?_⟩
    simp [cE, vE, bE, rE, fE, mE, bin, nilA, consA, bT, andT, orT, notT, tupE, lstE, allV, allM, okB, intR, addR, asL, asT, asD, eqR, eqD_nn, eqD_bb, eqD_ii, eqD_ss, eqD_tt, eqD_ll, eqD_bi, eqD_ib, eqD_nt, eqD_tn, eqD_it, eqD_ti, eqD_ni, eqD_in, eqDs_nn, eqDs_cc, eqDs_nc, eqDs_cn, cmpD, cmpDs, depD, depDs, isNon, isNR, chainE, tvE, andV, orV, notV, ifE, slEV, ixR, callV, lenC, isiC, tyN, pick, retEV, callP, argD, argDs, seqS, bkS, ctS, exprS, retS, retNS, ifS, evSl, setS, SK.loop, gN, gNil, gCons, gT, asgS, parS, defF, defK, raiseS, absC, divmodC, mmC, stL, itL, itT, itR1, itR2, itE, shL, itZ, itV, forS, evD, methL, appL, clrL, popL, insL, trL, extL, setixS, argS, argSs, callI, callN, hereA, nextA, negE, itS, wipeR, compE, yesT, seqD, listC, tupC, numd, zipd, nxS, frSl, retSl, retSls, retOk, retOks, tryAsS, tryOnlyS, lookB, kinE, xfE, lookF, frzE, isTR, isTB, allC, blsD, gU, raiseIS, at0, at1, at2, at3, lrE, sortC, intC, intsD, slE, intO, eqXR, slX, addT, repT, inR, cmpO, heldR, appT, lrE, sortC, intC, intsD, slE, intO, eqXR, slX, addT, repT, compX, compDx, neYR, lrevE, inTR, strC, intTC, strE, splS, joiS, slZ, itC, inSR, strsD, repS, compZ, compDz]
    exact r4_ok hl fun _ _ => next _ ⟨_, _, _, _, _, _, rfl⟩
  · rintro ρ ⟨n, s4, s5, s6, s7, s8, rfl⟩
    exact r7_ok ⟨by omega, hb.2.2⟩ fun _ _ => hk _ _ _ _ _ _
end
theorem cut_take (bs : List Bw) : cutD (bs.map wD) none (some 5) = (bs.take 5).map wD := by
  unfold cutD
  have e1 : HT.sIx (bs.map wD).length 0 none = 0 := rfl
  have e2 : HT.sIx (bs.map wD).length (bs.map wD).length (some 5) = min 5 (bs.map wD).length := HT.sIx_nat _ _ 5
  rw [e1, e2, List.drop_zero, Nat.sub_zero, List.map_take]
  by_cases h : 5 ≤ (bs.map wD).length
  · rw [Nat.min_eq_left h]
  · rw [Nat.min_eq_right (by omega), List.take_of_length_le (Nat.le_refl _), List.take_of_length_le (by omega)]
theorem to_law : ∀ ss K E, F_law ss K E → defF [false] 9 sf_law ss K E := fun ss K E h => by
  unfold F_law at h
  split at h
  · rename_i st ds
    obtain ⟨⟨ns, rfl, hl, hb⟩, h⟩ := h
    have hs : isScript (ns.map .int) := ⟨ns, rfl, hl, fun n hn => Si.mono (n := 1048576) (bits_si (hb n hn)) (by decide)⟩
    simp [sf_law, cE, vE, bE, rE, fE, mE, bin, nilA, consA, bT, andT, orT, notT, tupE, lstE, allV, allM, okB, intR, addR, asL, asT, asD, eqR, eqD_nn, eqD_bb, eqD_ii, eqD_ss, eqD_tt, eqD_ll, eqD_bi, eqD_ib, eqD_nt, eqD_tn, eqD_it, eqD_ti, eqD_ni, eqD_in, eqDs_nn, eqDs_cc, eqDs_nc, eqDs_cn, cmpD, cmpDs, depD, depDs, isNon, isNR, chainE, tvE, andV, orV, notV, ifE, slEV, ixR, callV, lenC, isiC, tyN, pick, retEV, callP, argD, argDs, seqS, bkS, ctS, exprS, retS, retNS, ifS, evSl, setS, SK.loop, gN, gNil, gCons, gT, asgS, parS, defF, defK, raiseS, absC, divmodC, mmC, stL, itL, itT, itR1, itR2, itE, shL, itZ, itV, forS, evD, methL, appL, clrL, popL, insL, trL, extL, setixS, argS, argSs, callI, callN, hereA, nextA, negE, itS, wipeR, compE, yesT, seqD, listC, tupC, numd, zipd, nxS, frSl, retSl, retSls, retOk, retOks, tryAsS, tryOnlyS, lookB, kinE, xfE, lookF, frzE, isTR, isTB, allC, blsD, gU, raiseIS, at0, at1, at2, at3, lrE, sortC, intC, intsD, slE, intO, eqXR, slX, addT, repT, inR, cmpO, heldR, appT, lrE, sortC, intC, intsD, slE, intO, eqXR, slX, addT, repT, compX, compDx, neYR, lrevE, inTR, strC, intTC, strE, splS, joiS, slZ, itC, inSR, strsD, repS, compZ, compDz]
    generalize hm : (if 1 < if 6 < (ns.length : Int) then 6 else (ns.length : Int) then if 6 < (ns.length : Int) then 6 else (ns.length : Int) else 1) = mm
    have hmm : 0 ≤ mm ∧ mm ≤ 8 := by omega
    refine ⟨⟨by omega, by omega⟩, ?_⟩
    refine loop_inv (fun i ρ => ∃ x1 x2 x3 x4 x5 x6 x7 x8, ρ = [.v (.lst true (ns.map .int)), x1, x2, x3, x4, x5, x6, x7, x8]) ⟨_, _, _, _, _, _, _, _, rfl⟩ ?_ ?_
    · rintro i d ρ K' hd ⟨x1, x2, x3, x4, x5, x6, x7, x8, rfl⟩ next
      obtain ⟨hi, rfl⟩ := rngD_get hd
      simp [cE, vE, bE, rE, fE, mE, bin, nilA, consA, bT, andT, orT, notT, tupE, lstE, allV, allM, okB, intR, addR, asL, asT, asD, eqR, eqD_nn, eqD_bb, eqD_ii, eqD_ss, eqD_tt, eqD_ll, eqD_bi, eqD_ib, eqD_nt, eqD_tn, eqD_it, eqD_ti, eqD_ni, eqD_in, eqDs_nn, eqDs_cc, eqDs_nc, eqDs_cn, cmpD, cmpDs, depD, depDs, isNon, isNR, chainE, tvE, andV, orV, notV, ifE, slEV, ixR, callV, lenC, isiC, tyN, pick, retEV, callP, argD, argDs, seqS, bkS, ctS, exprS, retS, retNS, ifS, evSl, setS, SK.loop, gN, gNil, gCons, gT, asgS, parS, defF, defK, raiseS, absC, divmodC, mmC, stL, itL, itT, itR1, itR2, itE, shL, itZ, itV, forS, evD, methL, appL, clrL, popL, insL, trL, extL, setixS, argS, argSs, callI, callN, hereA, nextA, negE, itS, wipeR, compE, yesT, seqD, listC, tupC, numd, zipd, nxS, frSl, retSl, retSls, retOk, retOks, tryAsS, tryOnlyS, lookB, kinE, xfE, lookF, frzE, isTR, isTB, allC, blsD, gU, raiseIS, at0, at1, at2, at3, lrE, sortC, intC, intsD, slE, intO, eqXR, slX, addT, repT, inR, cmpO, heldR, appT, lrE, sortC, intC, intsD, slE, intO, eqXR, slX, addT, repT, compX, compDx, neYR, lrevE, inTR, strC, intTC, strE, splS, joiS, slZ, itC, inSR, strsD, repS, compZ, compDz, F__law_box]
      refine ⟨⟨hs, by omega⟩, fun n0 => ?_⟩
      refine ⟨n0, rfl, fun bs n1 wd => ?_⟩
      simp [cE, vE, bE, rE, fE, mE, bin, nilA, consA, bT, andT, orT, notT, tupE, lstE, allV, allM, okB, intR, addR, asL, asT, asD, eqR, eqD_nn, eqD_bb, eqD_ii, eqD_ss, eqD_tt, eqD_ll, eqD_bi, eqD_ib, eqD_nt, eqD_tn, eqD_it, eqD_ti, eqD_ni, eqD_in, eqDs_nn, eqDs_cc, eqDs_nc, eqDs_cn, cmpD, cmpDs, depD, depDs, isNon, isNR, chainE, tvE, andV, orV, notV, ifE, slEV, ixR, callV, lenC, isiC, tyN, pick, retEV, callP, argD, argDs, seqS, bkS, ctS, exprS, retS, retNS, ifS, evSl, setS, SK.loop, gN, gNil, gCons, gT, asgS, parS, defF, defK, raiseS, absC, divmodC, mmC, stL, itL, itT, itR1, itR2, itE, shL, itZ, itV, forS, evD, methL, appL, clrL, popL, insL, trL, extL, setixS, argS, argSs, callI, callN, hereA, nextA, negE, itS, wipeR, compE, yesT, seqD, listC, tupC, numd, zipd, nxS, frSl, retSl, retSls, retOk, retOks, tryAsS, tryOnlyS, lookB, kinE, xfE, lookF, frzE, isTR, isTB, allC, blsD, gU, raiseIS, at0, at1, at2, at3, lrE, sortC, intC, intsD, slE, intO, eqXR, slX, addT, repT, inR, cmpO, heldR, appT, lrE, sortC, intC, intsD, slE, intO, eqXR, slX, addT, repT, compX, compDx, neYR, lrevE, inTR, strC, intTC, strE, splS, joiS, slZ, itC, inSR, strsD, repS, compZ, compDz, cut_take]
      rw [← List.map_take]
      refine r8_ok ⟨?_, ?_, ?_⟩ ?_
      · intro z
        rcases List.take_eq_nil_iff.mp z with z | z
        · cases z
        · exact wd.ne z
      · rw [List.length_take]; omega
      · exact fun b hb => wok_wk (wd.ok b (List.mem_of_mem_take hb))
      · exact fun _ _ _ _ _ _ => next _ ⟨_, _, _, _, _, _, _, _, rfl⟩
    · rintro ρ ⟨x1, x2, x3, x4, x5, x6, x7, x8, rfl⟩
      simp [cE, vE, bE, rE, fE, mE, bin, nilA, consA, bT, andT, orT, notT, tupE, lstE, allV, allM, okB, intR, addR, asL, asT, asD, eqR, eqD_nn, eqD_bb, eqD_ii, eqD_ss, eqD_tt, eqD_ll, eqD_bi, eqD_ib, eqD_nt, eqD_tn, eqD_it, eqD_ti, eqD_ni, eqD_in, eqDs_nn, eqDs_cc, eqDs_nc, eqDs_cn, cmpD, cmpDs, depD, depDs, isNon, isNR, chainE, tvE, andV, orV, notV, ifE, slEV, ixR, callV, lenC, isiC, tyN, pick, retEV, callP, argD, argDs, seqS, bkS, ctS, exprS, retS, retNS, ifS, evSl, setS, SK.loop, gN, gNil, gCons, gT, asgS, parS, defF, defK, raiseS, absC, divmodC, mmC, stL, itL, itT, itR1, itR2, itE, shL, itZ, itV, forS, evD, methL, appL, clrL, popL, insL, trL, extL, setixS, argS, argSs, callI, callN, hereA, nextA, negE, itS, wipeR, compE, yesT, seqD, listC, tupC, numd, zipd, nxS, frSl, retSl, retSls, retOk, retOks, tryAsS, tryOnlyS, lookB, kinE, xfE, lookF, frzE, isTR, isTB, allC, blsD, gU, raiseIS, at0, at1, at2, at3, lrE, sortC, intC, intsD, slE, intO, eqXR, slX, addT, repT, inR, cmpO, heldR, appT, lrE, sortC, intC, intsD, slE, intO, eqXR, slX, addT, repT, compX, compDx, neYR, lrevE, inTR, strC, intTC, strE, splS, joiS, slZ, itC, inSR, strsD, repS, compZ, compDz]
      exact h
  · exact h.elim
end VS
set_option Elab.async false
set_option linter.all false
set_option maxRecDepth 100000
set_option maxHeartbeats 4000000
namespace VS
open PySem PySem.Spec PyProof.Rows
open L2 (V Hp Cx WX)
def topS (i : Nat) : Stmt := PySem.Challenge.pw_knockwright_k06_texts_refused.main.body.getD i (.Pass ⟨0, 0, 0, 0⟩)
theorem sc__law_cell : L2.FnScope ["script", "k"] ["script", "k"] (L2.defScope (topS 25)) := ⟨rfl, rfl, rfl, by decide +kernel, rfl, by decide +kernel, by decide +kernel⟩
theorem ok__law_cell {P : Program} {w : World} {K : PySem.W.Frag} {mg : Str → Option Value} {base : Heap} (a__law_cell : At K mg "_law_cell" "_law_cell" (topS 25) ["script", "k"]) (z_len : mg "len" = none) :
  DefR P w K mg base 1 "_law_cell" ["script", "k"] [false, false] (defF [false, false] 2 sf__law_cell) :=
  DefR.mk' (k := 0) a__law_cell sc__law_cell rfl (by decide) (fun f cdv A outer s H E Z H0 io zd zi s0 hr =>
    ((sjs_cons (sj_if (tj_lt (ej_v (L2.pv 1)) (ej_callB L2.call_len lenC_mono (lenC_says rfl) (by rfl) z_len (by decide +kernel) (aj_cons (ej_v (L2.pv 0)) aj_nil))) (sjs_one (sj_ret (ej_ix rfl (fun _ _ => rfl) (ej_v (L2.pv 0)) (ej_v (L2.pv 1))))) sjs_nil)
    (sjs_one (sj_ret (ej_add rfl (ej_mul ej_int (ej_v (L2.pv 1))) ej_int)))))
    )
theorem sc__law_mix : L2.FnScope ["cell", "k", "number"] ["cell", "k"] (L2.defScope (topS 26)) := ⟨rfl, rfl, rfl, by decide +kernel, rfl, by decide +kernel, by decide +kernel⟩
theorem ok__law_mix {P : Program} {w : World} {K : PySem.W.Frag} {mg : Str → Option Value} {base : Heap} (a__law_mix : At K mg "_law_mix" "_law_mix" (topS 26) ["cell", "k"]) :
  DefR P w K mg base 1 "_law_mix" ["cell", "k"] [false, false] (defF [false, false] 3 sf__law_mix) :=
  DefR.mk' (k := 0) a__law_mix sc__law_mix rfl (by decide) (fun f cdv A outer s H E Z H0 io zd zi s0 hr =>
    ((sjs_cons (sj_set (i := 2) (fz := true) (ej_add rfl (ej_mul (ej_add rfl (ej_v (L2.pv 0)) ej_int) ej_int) (ej_mul ej_int (ej_v (L2.pv 1)))) (nm rfl) sc__law_mix.nd rfl (.inl rfl))
    (sjs_cons (sj_set (i := 2) (fz := true) (ej_add rfl (ej_mod (ej_mul (ej_v (L2.pv 2)) (ej_v (L2.pv 2))) ej_int) (ej_v (L2.pv 1))) (nm rfl) sc__law_mix.nd rfl (.inl rfl))
    (sjs_one (sj_ret (ej_mod (ej_mul (ej_v (L2.pv 2)) (ej_add rfl (ej_v (L2.pv 2)) ej_int)) ej_int))))))
    )
theorem sc__law_box : L2.FnScope ["script", "k", "here", "number", "j"] ["script", "k"] (L2.defScope (topS 27)) := ⟨rfl, rfl, rfl, by decide +kernel, rfl, by decide +kernel, by decide +kernel⟩
theorem ok__law_box {P : Program} {w : World} {K : PySem.W.Frag} {mg : Str → Option Value} {base : Heap} (a__law_box : At K mg "_law_box" "_law_box" (topS 27) ["script", "k"]) (d__law_cell : Def P w K mg base 1 "_law_cell" ["script", "k"] [false, false] F__law_cell) (d__law_mix : Def P w K mg base 1 "_law_mix" ["cell", "k"] [false, false] F__law_mix) (z_range : mg "range" = none) :
  DefR P w K mg base 2 "_law_box" ["script", "k"] [false, false] (defF [false, false] 5 sf__law_box) :=
  DefR.mk' (k := 1) a__law_box sc__law_box rfl (by decide) (fun f cdv A outer s H E Z H0 io zd zi s0 hr =>
    ((sjs_cons (sj_set (i := 2) (fz := true) (ej_call d__law_cell (by decide) rfl rfl hr (by decide) (by rfl) (L2.takes_of rfl rfl rfl rfl) (aj_cons (ej_v (L2.pv 0)) (aj_cons (ej_v (L2.pv 1)) aj_nil))) (nm rfl) sc__law_box.nd rfl (.inl rfl))
    (sjs_cons (sj_if (tj_eq rfl (u128 hr) (ej_mod (ej_v (L2.pv 2)) ej_int) ej_int) (sjs_one (sj_ret (ej_lst (aj_cons (ej_fdiv (ej_v (L2.pv 2)) ej_int) aj_nil)))) sjs_nil)
    (sjs_cons (sj_set (i := 3) (fz := true) ej_int (nm rfl) sc__law_box.nd rfl (.inl rfl))
    (sjs_cons (sj_for (L2.passes_of rfl) rfl (ij_range1 (by rfl) z_range (aj_cons ej_int aj_nil)) (gj_name (nm rfl) sc__law_box.nd rfl (.inl rfl)) (sjs_one (sj_set (i := 3) (fz := true) (ej_add rfl (ej_mul (ej_v (L2.pv 3)) ej_int) (ej_call d__law_mix (by decide) rfl rfl hr (by decide) (by rfl) (L2.takes_of rfl rfl rfl rfl) (aj_cons (ej_v (L2.pv 2)) (aj_cons (ej_v (L2.pv 4)) aj_nil)))) (nm rfl) sc__law_box.nd rfl (.inl rfl))))
    (sjs_one (sj_ret (ej_lst (aj_cons (ej_v (L2.pv 3)) aj_nil)))))))))
    )
theorem sc__law_take : L2.FnScope ["box", "many", "left", "digit"] ["box", "many"] (L2.defScope (topS 28)) := ⟨rfl, rfl, rfl, by decide +kernel, rfl, by decide +kernel, by decide +kernel⟩
theorem ok__law_take {P : Program} {w : World} {K : PySem.W.Frag} {mg : Str → Option Value} {base : Heap} (a__law_take : At K mg "_law_take" "_law_take" (topS 28) ["box", "many"]) (z_divmod : mg "divmod" = none) :
  DefR P w K mg base 1 "_law_take" ["box", "many"] [true, false] (defF [true, false] 4 sf__law_take) :=
  DefR.mk' (k := 0) a__law_take sc__law_take rfl (by decide) (fun f cdv A outer s H E Z H0 io zd zi s0 hr =>
    ((sjs_cons (sj_asg (ej_callB call_divmodV divmodC_mono divmodC_says (by rfl) z_divmod (by decide +kernel) (aj_cons (ej_ix rfl (fun _ _ => rfl) (ej_r (L2.pv 0)) ej_int) (aj_cons (ej_v (L2.pv 1)) aj_nil))) (gj_tup rfl rfl (gjs_cons (gj_name (nm rfl) sc__law_take.nd rfl (.inl rfl)) (gjs_cons (gj_name (nm rfl) sc__law_take.nd rfl (.inl rfl)) gjs_nil))))
    (sjs_cons (sj_setix (i := 0) (L2.pv 0) (ej_v (L2.pv 2)) ej_int)
    (sjs_one (sj_ret (ej_v (L2.pv 3)))))))
    )
theorem sc__law_odd : L2.FnScope ["box"] ["box"] (L2.defScope (topS 35)) := ⟨rfl, rfl, rfl, by decide +kernel, rfl, by decide +kernel, by decide +kernel⟩
theorem ok__law_odd {P : Program} {w : World} {K : PySem.W.Frag} {mg : Str → Option Value} {base : Heap} (a__law_odd : At K mg "_law_odd" "_law_odd" (topS 35) ["box"]) (d__law_take : Def P w K mg base 1 "_law_take" ["box", "many"] [true, false] F__law_take) :
  DefR P w K mg base 2 "_law_odd" ["box"] [true] (defF [true] 1 sf__law_odd) :=
  DefR.mk' (k := 1) a__law_odd sc__law_odd rfl (by decide) (fun f cdv A outer s H E Z H0 io zd zi s0 hr =>
    ((sjs_one (sj_ret (ej_ix rfl (fun _ _ => rfl) (ej_lst (aj_cons ej_non (aj_cons ej_bl (aj_cons ej_bl (aj_cons ej_str (aj_cons ej_str (aj_cons (ej_tup (aj_cons ej_int (aj_cons ej_int aj_nil)) rfl) (aj_cons (ej_frz (ej_lst (aj_cons ej_int aj_nil))) (aj_cons ej_d1 (aj_cons (ej_tup aj_nil rfl) aj_nil)))))))))) (ej_callI (i := 0) (kk := 0) (mm := 1) d__law_take rfl rfl rfl hr (by decide) (by rfl) (L2.takes_of rfl rfl rfl rfl) (aji_here (L2.pv 0) (aj_cons ej_int aj_nil)))))))
    )
theorem sc__law_fit : L2.FnScope ["top", "bottom", "one", "other"] ["top", "bottom"] (L2.defScope (topS 29)) := ⟨rfl, rfl, rfl, by decide +kernel, rfl, by decide +kernel, by decide +kernel⟩
theorem ok__law_fit {P : Program} {w : World} {K : PySem.W.Frag} {mg : Str → Option Value} {base : Heap} (a__law_fit : At K mg "_law_fit" "_law_fit" (topS 29) ["top", "bottom"]) (z_abs : mg "abs" = none) :
  DefR P w K mg base 1 "_law_fit" ["top", "bottom"] [false, false] (defF [false, false] 4 sf__law_fit) :=
  DefR.mk' (k := 0) a__law_fit sc__law_fit rfl (by decide) (fun f cdv A outer s H E Z H0 io zd zi s0 hr =>
    ((sjs_cons (sj_par (i := 2) (j := 3) (nm rfl) (nm rfl) rfl sc__law_fit.nd rfl rfl (by decide) rfl rfl (aj_cons (ej_callB L2.call_abs absC_mono absC_says (by rfl) z_abs (by decide +kernel) (aj_cons (ej_v (L2.pv 0)) aj_nil)) (aj_cons (ej_callB L2.call_abs absC_mono absC_says (by rfl) z_abs (by decide +kernel) (aj_cons (ej_v (L2.pv 1)) aj_nil)) aj_nil)) rfl)
    (sjs_cons (sj_while (L2.passes_of rfl) (tj_gt (ej_v (L2.pv 3)) ej_int) (sjs_one (sj_par (i := 2) (j := 3) (nm rfl) (nm rfl) rfl sc__law_fit.nd rfl rfl (by decide) rfl rfl (aj_cons (ej_v (L2.pv 3)) (aj_cons (ej_mod (ej_v (L2.pv 2)) (ej_v (L2.pv 3))) aj_nil)) rfl)))
    (sjs_cons (sj_if (tj_lt (ej_v (L2.pv 1)) ej_int) (sjs_one (sj_set (i := 2) (fz := true) (ej_sub ej_int (ej_v (L2.pv 2))) (nm rfl) sc__law_fit.nd rfl (.inl rfl))) sjs_nil)
    (sjs_one (sj_ret (ej_tup (aj_cons (ej_fdiv (ej_v (L2.pv 0)) (ej_v (L2.pv 2))) (aj_cons (ej_fdiv (ej_v (L2.pv 1)) (ej_v (L2.pv 2))) aj_nil)) rfl)))))))
    )
theorem sc__law_small : L2.FnScope ["box"] ["box"] (L2.defScope (topS 32)) := ⟨rfl, rfl, rfl, by decide +kernel, rfl, by decide +kernel, by decide +kernel⟩
theorem ok__law_small {P : Program} {w : World} {K : PySem.W.Frag} {mg : Str → Option Value} {base : Heap} (a__law_small : At K mg "_law_small" "_law_small" (topS 32) ["box"]) (d__law_fit : Def P w K mg base 1 "_law_fit" ["top", "bottom"] [false, false] F__law_fit) (d__law_take : Def P w K mg base 1 "_law_take" ["box", "many"] [true, false] F__law_take) :
  DefR P w K mg base 2 "_law_small" ["box"] [true] (defF [true] 1 sf__law_small) :=
  DefR.mk' (k := 1) a__law_small sc__law_small rfl (by decide) (fun f cdv A outer s H E Z H0 io zd zi s0 hr =>
    ((sjs_one (sj_ret (ej_call d__law_fit (by decide) rfl rfl hr (by decide) (by rfl) (L2.takes_of rfl rfl rfl rfl) (aj_cons (ej_sub (ej_callI (i := 0) (kk := 0) (mm := 1) d__law_take rfl rfl rfl hr (by decide) (by rfl) (L2.takes_of rfl rfl rfl rfl) (aji_here (L2.pv 0) (aj_cons ej_int aj_nil))) ej_int) (aj_cons (ej_ix rfl (fun _ _ => rfl) (ej_lst (aj_cons ej_int (aj_cons ej_int (aj_cons ej_int (aj_cons ej_int aj_nil))))) (ej_callI (i := 0) (kk := 0) (mm := 1) d__law_take rfl rfl rfl hr (by decide) (by rfl) (L2.takes_of rfl rfl rfl rfl) (aji_here (L2.pv 0) (aj_cons ej_int aj_nil)))) aj_nil))))))
    )
theorem sc__law_plus : L2.FnScope ["one", "other"] ["one", "other"] (L2.defScope (topS 30)) := ⟨rfl, rfl, rfl, by decide +kernel, rfl, by decide +kernel, by decide +kernel⟩
theorem ok__law_plus {P : Program} {w : World} {K : PySem.W.Frag} {mg : Str → Option Value} {base : Heap} (a__law_plus : At K mg "_law_plus" "_law_plus" (topS 30) ["one", "other"]) (d__law_fit : Def P w K mg base 1 "_law_fit" ["top", "bottom"] [false, false] F__law_fit) :
  DefR P w K mg base 2 "_law_plus" ["one", "other"] [false, false] (defF [false, false] 2 sf__law_plus) :=
  DefR.mk' (k := 1) a__law_plus sc__law_plus rfl (by decide) (fun f cdv A outer s H E Z H0 io zd zi s0 hr =>
    ((sjs_one (sj_ret (ej_call d__law_fit (by decide) rfl rfl hr (by decide) (by rfl) (L2.takes_of rfl rfl rfl rfl) (aj_cons (ej_add rfl (ej_mul (ej_ix rfl (fun _ _ => rfl) (ej_v (L2.pv 0)) ej_int) (ej_ix rfl (fun _ _ => rfl) (ej_v (L2.pv 1)) ej_int)) (ej_mul (ej_ix rfl (fun _ _ => rfl) (ej_v (L2.pv 1)) ej_int) (ej_ix rfl (fun _ _ => rfl) (ej_v (L2.pv 0)) ej_int))) (aj_cons (ej_mul (ej_ix rfl (fun _ _ => rfl) (ej_v (L2.pv 0)) ej_int) (ej_ix rfl (fun _ _ => rfl) (ej_v (L2.pv 1)) ej_int)) aj_nil))))))
    )
theorem sc__law_world : L2.FnScope ["box", "many", "like", "place", "found", "k", "weight"] ["box"] (L2.defScope (topS 33)) := ⟨rfl, rfl, rfl, by decide +kernel, rfl, by decide +kernel, by decide +kernel⟩
theorem ok__law_world {P : Program} {w : World} {K : PySem.W.Frag} {mg : Str → Option Value} {base : Heap} (a__law_world : At K mg "_law_world" "_law_world" (topS 33) ["box"]) (d__law_take : Def P w K mg base 1 "_law_take" ["box", "many"] [true, false] F__law_take) (d__law_small : Def P w K mg base 2 "_law_small" ["box"] [true] F__law_small) (d__law_plus : Def P w K mg base 2 "_law_plus" ["one", "other"] [false, false] F__law_plus) (d__law_fit : Def P w K mg base 1 "_law_fit" ["top", "bottom"] [false, false] F__law_fit) (z_range : mg "range" = none) :
  DefR P w K mg base 3 "_law_world" ["box"] [true] (defF [true] 7 sf__law_world) :=
  DefR.mk' (k := 2) a__law_world sc__law_world rfl (by decide) (fun f cdv A outer s H E Z H0 io zd zi s0 hr =>
    ((sjs_cons (sj_set (i := 1) (fz := true) (ej_add rfl ej_int (ej_callI (i := 0) (kk := 0) (mm := 1) d__law_take rfl rfl rfl hr (by decide) (by rfl) (L2.takes_of rfl rfl rfl rfl) (aji_here (L2.pv 0) (aj_cons (ej_ix rfl (fun _ _ => rfl) (ej_lst (aj_cons ej_int (aj_cons ej_int (aj_cons ej_int (aj_cons ej_int aj_nil))))) (ej_callI (i := 0) (kk := 0) (mm := 1) d__law_take rfl rfl rfl hr (by decide) (by rfl) (L2.takes_of rfl rfl rfl rfl) (aji_here (L2.pv 0) (aj_cons ej_int aj_nil)))) aj_nil)))) (nm rfl) sc__law_world.nd rfl (.inl rfl))
    (sjs_cons (sj_set (i := 2) (fz := true) (ej_eq rfl (u128 hr) (ej_callI (i := 0) (kk := 0) (mm := 1) d__law_take rfl rfl rfl hr (by decide) (by rfl) (L2.takes_of rfl rfl rfl rfl) (aji_here (L2.pv 0) (aj_cons ej_int aj_nil))) ej_int) (nm rfl) sc__law_world.nd rfl (.inl rfl))
    (sjs_cons (sj_set (i := 3) (fz := true) (ej_callI (i := 0) (kk := 0) (mm := 0) d__law_small rfl rfl rfl hr (by decide) (by rfl) (L2.takes_of rfl rfl rfl rfl) (aji_here (L2.pv 0) aj_nil)) (nm rfl) sc__law_world.nd rfl (.inl rfl))
    (sjs_cons (sj_set (i := 4) (fz := false) (ej_lst aj_nil) (nm rfl) sc__law_world.nd rfl (.inl rfl))
    (sjs_cons (sj_for (L2.passes_of rfl) rfl (ij_range1 (by rfl) z_range (aj_cons (ej_v (L2.pv 1)) aj_nil)) (gj_name (nm rfl) sc__law_world.nd rfl (.inl rfl)) (sjs_cons (sj_set (i := 6) (fz := true) (ej_add rfl ej_int (ej_callI (i := 0) (kk := 0) (mm := 1) d__law_take rfl rfl rfl hr (by decide) (by rfl) (L2.takes_of rfl rfl rfl rfl) (aji_here (L2.pv 0) (aj_cons (ej_ix rfl (fun _ _ => rfl) (ej_lst (aj_cons ej_int (aj_cons ej_int (aj_cons ej_int aj_nil)))) (ej_callI (i := 0) (kk := 0) (mm := 1) d__law_take rfl rfl rfl hr (by decide) (by rfl) (L2.takes_of rfl rfl rfl rfl) (aji_here (L2.pv 0) (aj_cons ej_int aj_nil)))) aj_nil)))) (nm rfl) sc__law_world.nd rfl (.inl rfl))
    (sjs_cons (sj_if ((wj_and (tj_val (ej_v (L2.pv 2))) (wj_and1 (tj_ne rfl (u128 hr) (ej_r (L2.pv 4)) (ej_lst aj_nil))))).tj (sjs_one (sj_set (i := 6) (fz := true) (ej_ix rfl (fun _ _ => rfl) (ej_ix rfl (fun _ _ => rfl) (ej_r (L2.pv 4)) ej_int) ej_int) (nm rfl) sc__law_world.nd rfl (.inl rfl))) sjs_nil)
    (sjs_cons (sj_expr (ej_append rfl (L2.pv 4) (aj_cons (ej_tup (aj_cons (ej_v (L2.pv 3)) (aj_cons (ej_callI (i := 0) (kk := 0) (mm := 0) d__law_small rfl rfl rfl hr (by decide) (by rfl) (L2.takes_of rfl rfl rfl rfl) (aji_here (L2.pv 0) aj_nil)) (aj_cons (ej_v (L2.pv 6)) aj_nil))) rfl) aj_nil)))
    (sjs_one (sj_set (i := 3) (fz := true) (ej_call d__law_plus (by decide) rfl rfl hr (by decide) (by rfl) (L2.takes_of rfl rfl rfl rfl) (aj_cons (ej_v (L2.pv 3)) (aj_cons (ej_call d__law_fit (by decide) rfl rfl hr (by decide) (by rfl) (L2.takes_of rfl rfl rfl rfl) (aj_cons (ej_add rfl ej_int (ej_callI (i := 0) (kk := 0) (mm := 1) d__law_take rfl rfl rfl hr (by decide) (by rfl) (L2.takes_of rfl rfl rfl rfl) (aji_here (L2.pv 0) (aj_cons ej_int aj_nil)))) (aj_cons (ej_add rfl ej_int (ej_callI (i := 0) (kk := 0) (mm := 1) d__law_take rfl rfl rfl hr (by decide) (by rfl) (L2.takes_of rfl rfl rfl rfl) (aji_here (L2.pv 0) (aj_cons ej_int aj_nil)))) aj_nil))) aj_nil))) (nm rfl) sc__law_world.nd rfl (.inl rfl)))))))
    (sjs_one (sj_ret (ej_m (L2.pv 4))))))))))
    )
theorem sc__law_shown : L2.FnScope ["one"] ["one"] (L2.defScope (topS 36)) := ⟨rfl, rfl, rfl, by decide +kernel, rfl, by decide +kernel, by decide +kernel⟩
theorem ok__law_shown {P : Program} {w : World} {K : PySem.W.Frag} {mg : Str → Option Value} {base : Heap} (a__law_shown : At K mg "_law_shown" "_law_shown" (topS 36) ["one"]) (z_str : mg "str" = none) :
  DefR P w K mg base 1 "_law_shown" ["one"] [false] (defF [false] 1 sf__law_shown) :=
  DefR.mk' (k := 0) a__law_shown sc__law_shown rfl (by decide) (fun f cdv A outer s H E Z H0 io zd zi s0 hr =>
    ((sjs_cons (sj_if (tj_eq rfl (u128 hr) (ej_ix rfl (fun _ _ => rfl) (ej_v (L2.pv 0)) ej_int) ej_int) (sjs_one (sj_ret (ej_callTy L2.call_str_int strC_mono strC_says (by rfl) z_str (by decide +kernel) (aj_cons (ej_ix rfl (fun _ _ => rfl) (ej_v (L2.pv 0)) ej_int) aj_nil)))) sjs_nil)
    (sjs_one (sj_ret (ej_add rfl (ej_add rfl (ej_callTy L2.call_str_int strC_mono strC_says (by rfl) z_str (by decide +kernel) (aj_cons (ej_ix rfl (fun _ _ => rfl) (ej_v (L2.pv 0)) ej_int) aj_nil)) ej_str) (ej_callTy L2.call_str_int strC_mono strC_says (by rfl) z_str (by decide +kernel) (aj_cons (ej_ix rfl (fun _ _ => rfl) (ej_v (L2.pv 0)) ej_int) aj_nil)))))))
    )
theorem sc__law_text : L2.FnScope ["world", "rows", "place", "speed", "weight"] ["world"] (L2.defScope (topS 37)) := ⟨rfl, rfl, rfl, by decide +kernel, rfl, by decide +kernel, by decide +kernel⟩
theorem ok__law_text {P : Program} {w : World} {K : PySem.W.Frag} {mg : Str → Option Value} {base : Heap} (a__law_text : At K mg "_law_text" "_law_text" (topS 37) ["world"]) (d__law_shown : Def P w K mg base 1 "_law_shown" ["one"] [false] F__law_shown) (z_str : mg "str" = none) :
  DefR P w K mg base 2 "_law_text" ["world"] [false] (defF [false] 5 sf__law_text) :=
  DefR.mk' (k := 1) a__law_text sc__law_text rfl (by decide) (fun f cdv A outer s H E Z H0 io zd zi s0 hr =>
    ((sjs_cons (sj_setlc (own := [("place", 2), ("speed", 3), ("weight", 4)]) (i := 1) (fz := true) (nm rfl) rfl rfl rfl rfl sc__law_text.nd (by first | (simp; done) | (simp [frB, frOf, maskAt]; done)) (ij_seq rfl (ej_v (L2.pv 0))) (blk_ok (N := ["world", "rows", "place", "speed", "weight"]) (sc := L2.defScope (topS 37)) rfl rfl (by decide +kernel)) (fun _ _ _ _ _ => (gw_tup rfl rfl (gws_cons (gw_name (by simp) (nm rfl) sc__law_text.nd rfl (.inl rfl) (.inr rfl)) (gws_cons (gw_name (by simp) (nm rfl) sc__law_text.nd rfl (.inl rfl) (.inr rfl)) (gws_cons (gw_name (by simp) (nm rfl) sc__law_text.nd rfl (.inl rfl) (.inr rfl)) gws_nil))))) (fun _ _ _ _ _ => tjs_nil) (fun _ _ _ _ _ => (ej_add rfl (ej_add rfl (ej_add rfl (ej_add rfl (ej_call d__law_shown (by decide) rfl rfl hr (by decide) (by rfl) L2.takes0 (aj_cons (ej_v (L2.pv 2)) aj_nil)) ej_str) (ej_call d__law_shown (by decide) rfl rfl hr (by decide) (by rfl) L2.takes0 (aj_cons (ej_v (L2.pv 3)) aj_nil))) ej_str) (ej_callTy L2.call_str_int strC_mono strC_says (by rfl) z_str (by decide +kernel) (aj_cons (ej_v (L2.pv 4)) aj_nil)))))
    (sjs_one (sj_ret (ej_join rfl ej_str (ej_v (L2.pv 1)))))))
    )
theorem sc__law_bent : L2.FnScope ["box", "text", "where", "sign", "way"] ["box", "text"] (L2.defScope (topS 38)) := ⟨rfl, rfl, rfl, by decide +kernel, rfl, by decide +kernel, by decide +kernel⟩
theorem ok__law_bent {P : Program} {w : World} {K : PySem.W.Frag} {mg : Str → Option Value} {base : Heap} (a__law_bent : At K mg "_law_bent" "_law_bent" (topS 38) ["box", "text"]) (d__law_take : Def P w K mg base 1 "_law_take" ["box", "many"] [true, false] F__law_take) (z_len : mg "len" = none) :
  DefR P w K mg base 2 "_law_bent" ["box", "text"] [true, false] (defF [true, false] 5 sf__law_bent) :=
  DefR.mk' (k := 1) a__law_bent sc__law_bent rfl (by decide) (fun f cdv A outer s H E Z H0 io zd zi s0 hr =>
    ((sjs_cons (sj_set (i := 2) (fz := true) (ej_callI (i := 0) (kk := 0) (mm := 1) d__law_take rfl rfl rfl hr (by decide) (by rfl) (L2.takes_of rfl rfl rfl rfl) (aji_here (L2.pv 0) (aj_cons (ej_add rfl (ej_callB L2.call_len lenC_mono (lenC_says rfl) (by rfl) z_len (by decide +kernel) (aj_cons (ej_v (L2.pv 1)) aj_nil)) ej_int) aj_nil))) (nm rfl) sc__law_bent.nd rfl (.inl rfl))
    (sjs_cons (sj_set (i := 3) (fz := true) (ej_ix rfl (fun _ _ => rfl) ej_str (ej_callI (i := 0) (kk := 0) (mm := 1) d__law_take rfl rfl rfl hr (by decide) (by rfl) (L2.takes_of rfl rfl rfl rfl) (aji_here (L2.pv 0) (aj_cons ej_int aj_nil)))) (nm rfl) sc__law_bent.nd rfl (.inl rfl))
    (sjs_cons (sj_set (i := 4) (fz := true) (ej_callI (i := 0) (kk := 0) (mm := 1) d__law_take rfl rfl rfl hr (by decide) (by rfl) (L2.takes_of rfl rfl rfl rfl) (aji_here (L2.pv 0) (aj_cons ej_int aj_nil))) (nm rfl) sc__law_bent.nd rfl (.inl rfl))
    (sjs_cons (sj_if (tj_eq rfl (u128 hr) (ej_v (L2.pv 4)) ej_int) (sjs_one (sj_ret (ej_add rfl (ej_add rfl (ej_slZ (ej_v (L2.pv 1)) oj_none (oj_some (ej_v (L2.pv 2)))) (ej_v (L2.pv 3))) (ej_slZ (ej_v (L2.pv 1)) (oj_some (ej_v (L2.pv 2))) oj_none)))) sjs_nil)
    (sjs_cons (sj_if (tj_eq rfl (u128 hr) (ej_v (L2.pv 4)) ej_int) (sjs_one (sj_ret (ej_add rfl (ej_slZ (ej_v (L2.pv 1)) oj_none (oj_some (ej_v (L2.pv 2)))) (ej_slZ (ej_v (L2.pv 1)) (oj_some (ej_add rfl (ej_v (L2.pv 2)) ej_int)) oj_none)))) sjs_nil)
    (sjs_one (sj_ret (ej_add rfl (ej_add rfl (ej_slZ (ej_v (L2.pv 1)) oj_none (oj_some (ej_v (L2.pv 2)))) (ej_v (L2.pv 3))) (ej_slZ (ej_v (L2.pv 1)) (oj_some (ej_add rfl (ej_v (L2.pv 2)) ej_int)) oj_none))))))))))
    )
theorem sc__law_worded : L2.FnScope ["box", "lines", "odd", "where", "words"] ["box", "lines"] (L2.defScope (topS 39)) := ⟨rfl, rfl, rfl, by decide +kernel, rfl, by decide +kernel, by decide +kernel⟩
theorem ok__law_worded {P : Program} {w : World} {K : PySem.W.Frag} {mg : Str → Option Value} {base : Heap} (a__law_worded : At K mg "_law_worded" "_law_worded" (topS 39) ["box", "lines"]) (d__law_take : Def P w K mg base 1 "_law_take" ["box", "many"] [true, false] F__law_take) (z_len : mg "len" = none) :
  DefR P w K mg base 2 "_law_worded" ["box", "lines"] [true, false] (defF [true, false] 5 sf__law_worded) :=
  DefR.mk' (k := 1) a__law_worded sc__law_worded rfl (by decide) (fun f cdv A outer s H E Z H0 io zd zi s0 hr =>
    ((sjs_cons (sj_set (i := 2) (fz := true) (ej_lst (aj_cons ej_str (aj_cons ej_str (aj_cons ej_str (aj_cons ej_str (aj_cons ej_str (aj_cons ej_str (aj_cons ej_str (aj_cons ej_str (aj_cons ej_str (aj_cons ej_str (aj_cons ej_str (aj_cons ej_str (aj_cons ej_str (aj_cons ej_str (aj_cons ej_str (aj_cons (ej_repS ej_str ej_int) aj_nil))))))))))))))))) (nm rfl) sc__law_worded.nd rfl (.inl rfl))
    (sjs_cons (sj_set (i := 3) (fz := true) (ej_callI (i := 0) (kk := 0) (mm := 1) d__law_take rfl rfl rfl hr (by decide) (by rfl) (L2.takes_of rfl rfl rfl rfl) (aji_here (L2.pv 0) (aj_cons (ej_callB L2.call_len lenC_mono (lenC_says rfl) (by rfl) z_len (by decide +kernel) (aj_cons (ej_v (L2.pv 1)) aj_nil)) aj_nil))) (nm rfl) sc__law_worded.nd rfl (.inl rfl))
    (sjs_cons (sj_set (i := 4) (fz := false) (ej_split (ej_ix rfl (fun _ _ => rfl) (ej_v (L2.pv 1)) (ej_v (L2.pv 3))) ej_str) (nm rfl) sc__law_worded.nd rfl (.inl rfl))
    (sjs_cons (sj_setix (i := 4) (L2.pv 4) (ej_ix rfl (fun _ _ => rfl) (ej_v (L2.pv 2)) (ej_callI (i := 0) (kk := 0) (mm := 1) d__law_take rfl rfl rfl hr (by decide) (by rfl) (L2.takes_of rfl rfl rfl rfl) (aji_here (L2.pv 0) (aj_cons ej_int aj_nil)))) (ej_callI (i := 0) (kk := 0) (mm := 1) d__law_take rfl rfl rfl hr (by decide) (by rfl) (L2.takes_of rfl rfl rfl rfl) (aji_here (L2.pv 0) (aj_cons ej_int aj_nil))))
    (sjs_one (sj_ret (ej_add rfl (ej_add rfl (ej_slX rfl (ej_v (L2.pv 1)) oj_none (oj_some (ej_v (L2.pv 3)))) (ej_lst (aj_cons (ej_join rfl ej_str (ej_r (L2.pv 4))) aj_nil))) (ej_slX rfl (ej_v (L2.pv 1)) (oj_some (ej_add rfl (ej_v (L2.pv 3)) ej_int)) oj_none)))))))))
    )
theorem sc__law_turned : L2.FnScope ["box", "world", "text", "lines", "way", "where", "k"] ["box", "world"] (L2.defScope (topS 40)) := ⟨rfl, rfl, rfl, by decide +kernel, rfl, by decide +kernel, by decide +kernel⟩
theorem ok__law_turned {P : Program} {w : World} {K : PySem.W.Frag} {mg : Str → Option Value} {base : Heap} (a__law_turned : At K mg "_law_turned" "_law_turned" (topS 40) ["box", "world"]) (d__law_text : Def P w K mg base 2 "_law_text" ["world"] [false] F__law_text) (d__law_take : Def P w K mg base 1 "_law_take" ["box", "many"] [true, false] F__law_take) (d__law_bent : Def P w K mg base 2 "_law_bent" ["box", "text"] [true, false] F__law_bent) (d__law_worded : Def P w K mg base 2 "_law_worded" ["box", "lines"] [true, false] F__law_worded) (z_len : mg "len" = none) (z_range : mg "range" = none) (z_str : mg "str" = none) :
  DefR P w K mg base 3 "_law_turned" ["box", "world"] [true, false] (defF [true, false] 7 sf__law_turned) :=
  DefR.mk' (k := 2) a__law_turned sc__law_turned rfl (by decide) (fun f cdv A outer s H E Z H0 io zd zi s0 hr =>
    ((sjs_cons (sj_set (i := 2) (fz := true) (ej_call d__law_text (by decide) rfl rfl hr (by decide) (by rfl) (L2.takes_of rfl rfl rfl rfl) (aj_cons (ej_v (L2.pv 1)) aj_nil)) (nm rfl) sc__law_turned.nd rfl (.inl rfl))
    (sjs_cons (sj_set (i := 3) (fz := true) (ej_split (ej_v (L2.pv 2)) ej_str) (nm rfl) sc__law_turned.nd rfl (.inl rfl))
    (sjs_cons (sj_set (i := 4) (fz := true) (ej_callI (i := 0) (kk := 0) (mm := 1) d__law_take rfl rfl rfl hr (by decide) (by rfl) (L2.takes_of rfl rfl rfl rfl) (aji_here (L2.pv 0) (aj_cons ej_int aj_nil))) (nm rfl) sc__law_turned.nd rfl (.inl rfl))
    (sjs_cons (sj_if (tj_lt (ej_v (L2.pv 4)) ej_int) (sjs_one (sj_ret (ej_callI (i := 0) (kk := 0) (mm := 1) d__law_bent rfl rfl rfl hr (by decide) (by rfl) (L2.takes_of rfl rfl rfl rfl) (aji_here (L2.pv 0) (aj_cons (ej_v (L2.pv 2)) aj_nil))))) sjs_nil)
    (sjs_cons (sj_if (tj_eq rfl (u128 hr) (ej_v (L2.pv 4)) ej_int) (sjs_one (sj_ret (ej_join rfl ej_str (ej_callI (i := 0) (kk := 0) (mm := 1) d__law_worded rfl rfl rfl hr (by decide) (by rfl) (L2.takes_of rfl rfl rfl rfl) (aji_here (L2.pv 0) (aj_cons (ej_v (L2.pv 3)) aj_nil)))))) sjs_nil)
    (sjs_cons (sj_if (tj_eq rfl (u128 hr) (ej_v (L2.pv 4)) ej_int) (sjs_cons (sj_set (i := 5) (fz := true) (ej_callI (i := 0) (kk := 0) (mm := 1) d__law_take rfl rfl rfl hr (by decide) (by rfl) (L2.takes_of rfl rfl rfl rfl) (aji_here (L2.pv 0) (aj_cons (ej_callB L2.call_len lenC_mono (lenC_says rfl) (by rfl) z_len (by decide +kernel) (aj_cons (ej_v (L2.pv 3)) aj_nil)) aj_nil))) (nm rfl) sc__law_turned.nd rfl (.inl rfl))
    (sjs_one (sj_ret (ej_join rfl ej_str (ej_add rfl (ej_add rfl (ej_slX rfl (ej_v (L2.pv 3)) oj_none (oj_some (ej_v (L2.pv 5)))) (ej_lst (aj_cons (ej_ix rfl (fun _ _ => rfl) (ej_v (L2.pv 3)) (ej_v (L2.pv 5))) aj_nil))) (ej_slX rfl (ej_v (L2.pv 3)) (oj_some (ej_v (L2.pv 5))) oj_none)))))) sjs_nil)
    (sjs_cons (sj_if (tj_eq rfl (u128 hr) (ej_v (L2.pv 4)) ej_int) (sjs_one (sj_ret (ej_join rfl ej_str (ej_add rfl (ej_slX rfl (ej_v (L2.pv 3)) (oj_some ej_int) oj_none) (ej_slX rfl (ej_v (L2.pv 3)) oj_none (oj_some ej_int)))))) sjs_nil)
    (sjs_cons (sj_if (tj_eq rfl (u128 hr) (ej_v (L2.pv 4)) ej_int) (sjs_one (sj_ret (ej_add rfl (ej_v (L2.pv 2)) (ej_join rfl ej_str (ej_lc (own := [("k", 6)]) rfl sc__law_turned.nd (by first | (simp; done) | (simp [frB, frOf, maskAt]; done)) (ij_range1 (by rfl) z_range (aj_cons (ej_sub ej_int (ej_callB L2.call_len lenC_mono (lenC_says rfl) (by rfl) z_len (by decide +kernel) (aj_cons (ej_v (L2.pv 3)) aj_nil))) aj_nil)) (blk_ok (N := ["box", "world", "text", "lines", "way", "where", "k"]) (sc := L2.defScope (topS 40)) rfl rfl (by decide +kernel)) (fun _ _ _ _ _ => (gw_name (by simp) (nm rfl) sc__law_turned.nd rfl (.inl rfl) (.inr rfl))) (fun _ _ _ _ _ => tjs_nil) (fun _ _ _ _ _ => (ej_add rfl (ej_add rfl ej_str (ej_callTy L2.call_str_int strC_mono strC_says (by rfl) z_str (by decide +kernel) (aj_cons (ej_add rfl ej_int (ej_v (L2.pv 6))) aj_nil))) ej_str))))))) sjs_nil)
    (sjs_one (sj_ret (ej_v (L2.pv 2)))))))))))))
    )
theorem sc_whole_in : L2.FnScope ["word", "sign"] ["word"] (L2.defScope (topS 20)) := ⟨rfl, rfl, rfl, by decide +kernel, rfl, by decide +kernel, by decide +kernel⟩
theorem ok_whole_in {P : Program} {w : World} {K : PySem.W.Frag} {mg : Str → Option Value} {base : Heap} (a_whole_in : At K mg "whole_in" "whole_in" (topS 20) ["word"]) (g_MOST_FIGURES : ∃ t, mg "MOST_FIGURES" = some (.int (100) t)) (g_FIGURES : GD K mg "FIGURES" gv_FIGURES) (z_int : mg "int" = none) (z_len : mg "len" = none) :
  DefR P w K mg base 1 "whole_in" ["word"] [false] (defF [false] 2 sf_whole_in) :=
  DefR.mk' (k := 0) a_whole_in sc_whole_in rfl (by decide) (fun f cdv A outer s H E Z H0 io zd zi s0 hr =>
    ((sjs_cons (sj_if ((wj_or (tj_not (tj_chain L2.op_le L2.op_le ej_int (ej_callB L2.call_len lenC_mono (lenC_says rfl) (by rfl) z_len (by decide +kernel) (aj_cons (ej_v (L2.pv 0)) aj_nil)) (ej_gi rfl (by rfl) g_MOST_FIGURES))) (wj_or1 ((wj_and (tj_gt (ej_callB L2.call_len lenC_mono (lenC_says rfl) (by rfl) z_len (by decide +kernel) (aj_cons (ej_v (L2.pv 0)) aj_nil)) ej_int) (wj_and1 (tj_eq rfl (u128 hr) (ej_ix rfl (fun _ _ => rfl) (ej_v (L2.pv 0)) ej_int) ej_str)))).tj))).tj (sjs_one (sj_ret ej_non)) sjs_nil)
    (sjs_cons (sj_for (L2.passes_of rfl) rfl (ij_str (ej_v (L2.pv 0))) (gj_name (nm rfl) sc_whole_in.nd rfl (.inl rfl)) (sjs_one (sj_if (tj_notinS (ej_v (L2.pv 1)) (ej_gd rfl rfl (by rfl) g_FIGURES)) (sjs_one (sj_ret ej_non)) sjs_nil)))
    (sjs_one (sj_ret (ej_callTy L2.call_int_str intTC_mono intTC_says (by rfl) z_int (by decide +kernel) (aj_cons (ej_v (L2.pv 0)) aj_nil)))))))
    )
theorem sc_is_whole : L2.FnScope ["thing"] ["thing"] (L2.defScope (topS 8)) := ⟨rfl, rfl, rfl, by decide +kernel, rfl, by decide +kernel, by decide +kernel⟩
theorem ok_is_whole {P : Program} {w : World} {K : PySem.W.Frag} {mg : Str → Option Value} {base : Heap} (a_is_whole : At K mg "is_whole" "is_whole" (topS 8) ["thing"]) (z_bool : mg "bool" = none) (z_int : mg "int" = none) (z_isinstance : mg "isinstance" = none) :
  DefR P w K mg base 1 "is_whole" ["thing"] [false] (defF [false] 1 sf_is_whole) :=
  DefR.mk' (k := 0) a_is_whole sc_is_whole rfl (by decide) (fun f cdv A outer s H E Z H0 io zd zi s0 hr =>
    ((sjs_one (sj_ret (ej_and (ej_callB L2.call_isi isiC_mono (isiC_says rfl kb_ok) (by rfl) z_isinstance (by decide +kernel) (aj_cons (ej_v (L2.pv 0)) (aj_cons (ej_ty (by rfl) z_int (by decide +kernel)) aj_nil))) (ej_one (ej_not (ej_callB L2.call_isi isiC_mono (isiC_says rfl kb_ok) (by rfl) z_isinstance (by decide +kernel) (aj_cons (ej_v (L2.pv 0)) (aj_cons (ej_ty (by rfl) z_bool (by decide +kernel)) aj_nil)))))))))
    )
theorem sc_divisor : L2.FnScope ["one", "other"] ["one", "other"] (L2.defScope (topS 10)) := ⟨rfl, rfl, rfl, by decide +kernel, rfl, by decide +kernel, by decide +kernel⟩
theorem ok_divisor {P : Program} {w : World} {K : PySem.W.Frag} {mg : Str → Option Value} {base : Heap} (a_divisor : At K mg "divisor" "divisor" (topS 10) ["one", "other"]) :
  DefR P w K mg base 1 "divisor" ["one", "other"] [false, false] (defF [false, false] 2 sf_divisor) :=
  DefR.mk' (k := 0) a_divisor sc_divisor rfl (by decide) (fun f cdv A outer s H E Z H0 io zd zi s0 hr =>
    ((sjs_cons (sj_while (L2.passes_of rfl) (tj_gt (ej_v (L2.pv 1)) ej_int) (sjs_one (sj_par (i := 0) (j := 1) (nm rfl) (nm rfl) rfl sc_divisor.nd rfl rfl (by decide) rfl rfl (aj_cons (ej_v (L2.pv 1)) (aj_cons (ej_mod (ej_v (L2.pv 0)) (ej_v (L2.pv 1))) aj_nil)) rfl)))
    (sjs_one (sj_ret (ej_v (L2.pv 0))))))
    )
theorem sc_size_of : L2.FnScope ["number"] ["number"] (L2.defScope (topS 9)) := ⟨rfl, rfl, rfl, by decide +kernel, rfl, by decide +kernel, by decide +kernel⟩
theorem ok_size_of {P : Program} {w : World} {K : PySem.W.Frag} {mg : Str → Option Value} {base : Heap} (a_size_of : At K mg "size_of" "size_of" (topS 9) ["number"]) :
  DefR P w K mg base 1 "size_of" ["number"] [false] (defF [false] 1 sf_size_of) :=
  DefR.mk' (k := 0) a_size_of sc_size_of rfl (by decide) (fun f cdv A outer s H E Z H0 io zd zi s0 hr =>
    ((sjs_cons (sj_if (tj_lt (ej_v (L2.pv 0)) ej_int) (sjs_one (sj_ret (ej_sub ej_int (ej_v (L2.pv 0))))) sjs_nil)
    (sjs_one (sj_ret (ej_v (L2.pv 0))))))
    )
theorem sc_is_fraction : L2.FnScope ["thing"] ["thing"] (L2.defScope (topS 11)) := ⟨rfl, rfl, rfl, by decide +kernel, rfl, by decide +kernel, by decide +kernel⟩
theorem ok_is_fraction {P : Program} {w : World} {K : PySem.W.Frag} {mg : Str → Option Value} {base : Heap} (a_is_fraction : At K mg "is_fraction" "is_fraction" (topS 11) ["thing"]) (d_is_whole : Def P w K mg base 1 "is_whole" ["thing"] [false] F_is_whole) (d_divisor : Def P w K mg base 1 "divisor" ["one", "other"] [false, false] F_divisor) (d_size_of : Def P w K mg base 1 "size_of" ["number"] [false] F_size_of) (z_isinstance : mg "isinstance" = none) (z_len : mg "len" = none) (z_tuple : mg "tuple" = none) :
  DefR P w K mg base 2 "is_fraction" ["thing"] [false] (defF [false] 1 sf_is_fraction) :=
  DefR.mk' (k := 1) a_is_fraction sc_is_fraction rfl (by decide) (fun f cdv A outer s H E Z H0 io zd zi s0 hr =>
    ((sjs_cons (sj_if ((wj_or (tj_not (tj_val (ej_callB L2.call_isi isiC_mono (isiC_says rfl kb_ok) (by rfl) z_isinstance (by decide +kernel) (aj_cons (ej_v (L2.pv 0)) (aj_cons (ej_ty (by rfl) z_tuple (by decide +kernel)) aj_nil))))) (wj_or (tj_ne rfl (u128 hr) (ej_callB L2.call_len lenC_mono (lenC_says rfl) (by rfl) z_len (by decide +kernel) (aj_cons (ej_v (L2.pv 0)) aj_nil)) ej_int) (wj_or (tj_not (tj_val (ej_call d_is_whole (by decide) rfl rfl hr (by decide) (by rfl) (L2.takes_of rfl rfl rfl rfl) (aj_cons (ej_ix rfl (fun _ _ => rfl) (ej_v (L2.pv 0)) ej_int) aj_nil)))) (wj_or1 (tj_not (tj_val (ej_call d_is_whole (by decide) rfl rfl hr (by decide) (by rfl) (L2.takes_of rfl rfl rfl rfl) (aj_cons (ej_ix rfl (fun _ _ => rfl) (ej_v (L2.pv 0)) ej_int) aj_nil))))))))).tj (sjs_one (sj_ret ej_bl)) sjs_nil)
    (sjs_one (sj_ret (ej_and (ej_gt (ej_ix rfl (fun _ _ => rfl) (ej_v (L2.pv 0)) ej_int) ej_int) (ej_one (ej_eq rfl (u128 hr) (ej_call d_divisor (by decide) rfl rfl hr (by decide) (by rfl) (L2.takes_of rfl rfl rfl rfl) (aj_cons (ej_call d_size_of (by decide) rfl rfl hr (by decide) (by rfl) (L2.takes_of rfl rfl rfl rfl) (aj_cons (ej_ix rfl (fun _ _ => rfl) (ej_v (L2.pv 0)) ej_int) aj_nil)) (aj_cons (ej_ix rfl (fun _ _ => rfl) (ej_v (L2.pv 0)) ej_int) aj_nil))) ej_int)))))))
    )
theorem sc_fraction_in : L2.FnScope ["word", "below", "numbers", "top", "bottom", "part"] ["word"] (L2.defScope (topS 21)) := ⟨rfl, rfl, rfl, by decide +kernel, rfl, by decide +kernel, by decide +kernel⟩
theorem ok_fraction_in {P : Program} {w : World} {K : PySem.W.Frag} {mg : Str → Option Value} {base : Heap} (a_fraction_in : At K mg "fraction_in" "fraction_in" (topS 21) ["word"]) (d_whole_in : Def P w K mg base 1 "whole_in" ["word"] [false] F_whole_in) (d_is_fraction : Def P w K mg base 2 "is_fraction" ["thing"] [false] F_is_fraction) (z_int : mg "int" = none) (z_len : mg "len" = none) :
  DefR P w K mg base 3 "fraction_in" ["word"] [false] (defF [false] 6 sf_fraction_in) :=
  DefR.mk' (k := 2) a_fraction_in sc_fraction_in rfl (by decide) (fun f cdv A outer s H E Z H0 io zd zi s0 hr =>
    ((sjs_cons (sj_set (i := 1) (fz := true) (ej_eq rfl (u128 hr) (ej_slZ (ej_v (L2.pv 0)) oj_none (oj_some ej_int)) ej_str) (nm rfl) sc_fraction_in.nd rfl (.inl rfl))
    (sjs_cons (sj_setlc (own := [("part", 5)]) (i := 2) (fz := true) (nm rfl) rfl rfl rfl rfl sc_fraction_in.nd (by first | (simp; done) | (simp [frB, frOf, maskAt]; done)) (ij_seq rfl (ej_split (ej_slZ (ej_v (L2.pv 0)) (oj_some (ej_callTy L2.call_int1 intC_mono intC_says (by rfl) z_int (by decide +kernel) (aj_cons (ej_v (L2.pv 1)) aj_nil))) oj_none) ej_str)) (blk_ok (N := ["word", "below", "numbers", "top", "bottom", "part"]) (sc := L2.defScope (topS 21)) rfl rfl (by decide +kernel)) (fun _ _ _ _ _ => (gw_name (by simp) (nm rfl) sc_fraction_in.nd rfl (.inl rfl) (.inr rfl))) (fun _ _ _ _ _ => tjs_nil) (fun _ _ _ _ _ => (ej_call d_whole_in (by decide) rfl rfl hr (by decide) (by rfl) L2.takes0 (aj_cons (ej_v (L2.pv 5)) aj_nil))))
    (sjs_cons (sj_if ((wj_or (tj_in rfl (u128 hr) ej_non (ej_v (L2.pv 2))) (wj_or1 (tj_gt (ej_callB L2.call_len lenC_mono (lenC_says rfl) (by rfl) z_len (by decide +kernel) (aj_cons (ej_v (L2.pv 2)) aj_nil)) ej_int)))).tj (sjs_one (sj_ret ej_non)) sjs_nil)
    (sjs_cons (sj_set (i := 3) (fz := true) (ej_ix rfl (fun _ _ => rfl) (ej_v (L2.pv 2)) ej_int) (nm rfl) sc_fraction_in.nd rfl (.inl rfl))
    (sjs_cons (sj_if (tj_val (ej_v (L2.pv 1))) (sjs_one (sj_set (i := 3) (fz := true) (ej_sub ej_int (ej_v (L2.pv 3))) (nm rfl) sc_fraction_in.nd rfl (.inl rfl))) sjs_nil)
    (sjs_cons (sj_set (i := 4) (fz := true) ej_int (nm rfl) sc_fraction_in.nd rfl (.inl rfl))
    (sjs_cons (sj_if (tj_eq rfl (u128 hr) (ej_callB L2.call_len lenC_mono (lenC_says rfl) (by rfl) z_len (by decide +kernel) (aj_cons (ej_v (L2.pv 2)) aj_nil)) ej_int) (sjs_cons (sj_set (i := 4) (fz := true) (ej_ix rfl (fun _ _ => rfl) (ej_v (L2.pv 2)) ej_int) (nm rfl) sc_fraction_in.nd rfl (.inl rfl))
    (sjs_one (sj_if (tj_eq rfl (u128 hr) (ej_v (L2.pv 4)) ej_int) (sjs_one (sj_ret ej_non)) sjs_nil))) sjs_nil)
    (sjs_cons (sj_if ((wj_or ((wj_and (tj_val (ej_v (L2.pv 1))) (wj_and1 (tj_eq rfl (u128 hr) (ej_v (L2.pv 3)) ej_int)))).tj (wj_or1 (tj_not (tj_val (ej_call d_is_fraction (by decide) rfl rfl hr (by decide) (by rfl) (L2.takes_of rfl rfl rfl rfl) (aj_cons (ej_tup (aj_cons (ej_v (L2.pv 3)) (aj_cons (ej_v (L2.pv 4)) aj_nil)) rfl) aj_nil))))))).tj (sjs_one (sj_ret ej_non)) sjs_nil)
    (sjs_one (sj_ret (ej_tup (aj_cons (ej_v (L2.pv 3)) (aj_cons (ej_v (L2.pv 4)) aj_nil)) rfl))))))))))))
    )
theorem sc_is_body : L2.FnScope ["thing"] ["thing"] (L2.defScope (topS 16)) := ⟨rfl, rfl, rfl, by decide +kernel, rfl, by decide +kernel, by decide +kernel⟩
theorem ok_is_body {P : Program} {w : World} {K : PySem.W.Frag} {mg : Str → Option Value} {base : Heap} (a_is_body : At K mg "is_body" "is_body" (topS 16) ["thing"]) (d_is_fraction : Def P w K mg base 2 "is_fraction" ["thing"] [false] F_is_fraction) (d_is_whole : Def P w K mg base 1 "is_whole" ["thing"] [false] F_is_whole) (g_MOST_WEIGHT : ∃ t, mg "MOST_WEIGHT" = some (.int (1000) t)) (z_isinstance : mg "isinstance" = none) (z_len : mg "len" = none) (z_tuple : mg "tuple" = none) :
  DefR P w K mg base 3 "is_body" ["thing"] [false] (defF [false] 1 sf_is_body) :=
  DefR.mk' (k := 2) a_is_body sc_is_body rfl (by decide) (fun f cdv A outer s H E Z H0 io zd zi s0 hr =>
    ((sjs_cons (sj_if ((wj_or (tj_not (tj_val (ej_callB L2.call_isi isiC_mono (isiC_says rfl kb_ok) (by rfl) z_isinstance (by decide +kernel) (aj_cons (ej_v (L2.pv 0)) (aj_cons (ej_ty (by rfl) z_tuple (by decide +kernel)) aj_nil))))) (wj_or1 (tj_ne rfl (u128 hr) (ej_callB L2.call_len lenC_mono (lenC_says rfl) (by rfl) z_len (by decide +kernel) (aj_cons (ej_v (L2.pv 0)) aj_nil)) ej_int)))).tj (sjs_one (sj_ret ej_bl)) sjs_nil)
    (sjs_cons (sj_if ((wj_or (tj_not (tj_val (ej_call d_is_fraction (by decide) rfl rfl hr (by decide) (by rfl) (L2.takes_of rfl rfl rfl rfl) (aj_cons (ej_ix rfl (fun _ _ => rfl) (ej_v (L2.pv 0)) ej_int) aj_nil)))) (wj_or1 (tj_not (tj_val (ej_call d_is_fraction (by decide) rfl rfl hr (by decide) (by rfl) (L2.takes_of rfl rfl rfl rfl) (aj_cons (ej_ix rfl (fun _ _ => rfl) (ej_v (L2.pv 0)) ej_int) aj_nil))))))).tj (sjs_one (sj_ret ej_bl)) sjs_nil)
    (sjs_one (sj_ret (ej_and (ej_call d_is_whole (by decide) rfl rfl hr (by decide) (by rfl) (L2.takes_of rfl rfl rfl rfl) (aj_cons (ej_ix rfl (fun _ _ => rfl) (ej_v (L2.pv 0)) ej_int) aj_nil)) (ej_one (ej_chain L2.op_le L2.op_le ej_int (ej_ix rfl (fun _ _ => rfl) (ej_v (L2.pv 0)) ej_int) (ej_gi rfl (by rfl) g_MOST_WEIGHT)).1)))))))
    )
theorem sc_body_in : L2.FnScope ["line", "words", "body"] ["line"] (L2.defScope (topS 22)) := ⟨rfl, rfl, rfl, by decide +kernel, rfl, by decide +kernel, by decide +kernel⟩
theorem ok_body_in {P : Program} {w : World} {K : PySem.W.Frag} {mg : Str → Option Value} {base : Heap} (a_body_in : At K mg "body_in" "body_in" (topS 22) ["line"]) (d_fraction_in : Def P w K mg base 3 "fraction_in" ["word"] [false] F_fraction_in) (d_whole_in : Def P w K mg base 1 "whole_in" ["word"] [false] F_whole_in) (d_is_body : Def P w K mg base 3 "is_body" ["thing"] [false] F_is_body) (z_len : mg "len" = none) :
  DefR P w K mg base 4 "body_in" ["line"] [false] (defF [false] 3 sf_body_in) :=
  DefR.mk' (k := 3) a_body_in sc_body_in rfl (by decide) (fun f cdv A outer s H E Z H0 io zd zi s0 hr =>
    ((sjs_cons (sj_set (i := 1) (fz := true) (ej_split (ej_v (L2.pv 0)) ej_str) (nm rfl) sc_body_in.nd rfl (.inl rfl))
    (sjs_cons (sj_if (tj_ne rfl (u128 hr) (ej_callB L2.call_len lenC_mono (lenC_says rfl) (by rfl) z_len (by decide +kernel) (aj_cons (ej_v (L2.pv 1)) aj_nil)) ej_int) (sjs_one (sj_ret ej_non)) sjs_nil)
    (sjs_cons (sj_set (i := 2) (fz := true) (ej_tup (aj_cons (ej_call d_fraction_in (by decide) rfl rfl hr (by decide) (by rfl) (L2.takes_of rfl rfl rfl rfl) (aj_cons (ej_ix rfl (fun _ _ => rfl) (ej_v (L2.pv 1)) ej_int) aj_nil)) (aj_cons (ej_call d_fraction_in (by decide) rfl rfl hr (by decide) (by rfl) (L2.takes_of rfl rfl rfl rfl) (aj_cons (ej_ix rfl (fun _ _ => rfl) (ej_v (L2.pv 1)) ej_int) aj_nil)) (aj_cons (ej_call d_whole_in (by decide) rfl rfl hr (by decide) (by rfl) (L2.takes_of rfl rfl rfl rfl) (aj_cons (ej_ix rfl (fun _ _ => rfl) (ej_v (L2.pv 1)) ej_int) aj_nil)) aj_nil))) rfl) (nm rfl) sc_body_in.nd rfl (.inl rfl))
    (sjs_cons (sj_if (tj_not (tj_val (ej_call d_is_body (by decide) rfl rfl hr (by decide) (by rfl) (L2.takes_of rfl rfl rfl rfl) (aj_cons (ej_v (L2.pv 2)) aj_nil)))) (sjs_one (sj_ret ej_non)) sjs_nil)
    (sjs_one (sj_ret (ej_v (L2.pv 2)))))))))
    )
theorem sc_under : L2.FnScope ["one", "other"] ["one", "other"] (L2.defScope (topS 12)) := ⟨rfl, rfl, rfl, by decide +kernel, rfl, by decide +kernel, by decide +kernel⟩
theorem ok_under {P : Program} {w : World} {K : PySem.W.Frag} {mg : Str → Option Value} {base : Heap} (a_under : At K mg "under" "under" (topS 12) ["one", "other"]) :
  DefR P w K mg base 1 "under" ["one", "other"] [false, false] (defF [false, false] 2 sf_under) :=
  DefR.mk' (k := 0) a_under sc_under rfl (by decide) (fun f cdv A outer s H E Z H0 io zd zi s0 hr =>
    ((sjs_one (sj_ret (ej_lt (ej_mul (ej_ix rfl (fun _ _ => rfl) (ej_v (L2.pv 0)) ej_int) (ej_ix rfl (fun _ _ => rfl) (ej_v (L2.pv 1)) ej_int)) (ej_mul (ej_ix rfl (fun _ _ => rfl) (ej_v (L2.pv 1)) ej_int) (ej_ix rfl (fun _ _ => rfl) (ej_v (L2.pv 0)) ej_int))))))
    )
theorem sc_read_world : L2.FnScope ["text", "found", "at", "line", "body"] ["text"] (L2.defScope (topS 23)) := ⟨rfl, rfl, rfl, by decide +kernel, rfl, by decide +kernel, by decide +kernel⟩
theorem ok_read_world {P : Program} {w : World} {K : PySem.W.Frag} {mg : Str → Option Value} {base : Heap} (a_read_world : At K mg "read_world" "read_world" (topS 23) ["text"]) (i_NoText : XIni P w K mg base 1 "NoText" ["line"]) (d_body_in : Def P w K mg base 4 "body_in" ["line"] [false] F_body_in) (g_MOST_BODIES : ∃ t, mg "MOST_BODIES" = some (.int (12) t)) (d_under : Def P w K mg base 1 "under" ["one", "other"] [false, false] F_under) (z_enumerate : mg "enumerate" = none) (z_isinstance : mg "isinstance" = none) (z_str : mg "str" = none) :
  DefR P w K mg base 5 "read_world" ["text"] [false] (defF [false] 5 sf_read_world) :=
  DefR.mk' (k := 4) a_read_world sc_read_world rfl (by decide) (fun f cdv A outer s H E Z H0 io zd zi s0 hr =>
    ((sjs_cons (sj_if (tj_not (tj_val (ej_callB L2.call_isi isiC_mono (isiC_says rfl kb_ok) (by rfl) z_isinstance (by decide +kernel) (aj_cons (ej_v (L2.pv 0)) (aj_cons (ej_ty (by rfl) z_str (by decide +kernel)) aj_nil))))) (sjs_one (sj_raiseI (fl := ["line"]) rfl rfl rfl hr (by decide) (L2.takes_of rfl rfl rfl rfl) i_NoText passes0 (by rfl) (aj_cons ej_int aj_nil))) sjs_nil)
    (sjs_cons (sj_set (i := 1) (fz := false) (ej_lst aj_nil) (nm rfl) sc_read_world.nd rfl (.inl rfl))
    (sjs_cons (sj_for (L2.passes_of rfl) rfl (ij_enum rfl (by rfl) z_enumerate (aj_cons (ej_split (ej_v (L2.pv 0)) ej_str) aj_nil)) (gj_tup rfl rfl (gjs_cons (gj_name (nm rfl) sc_read_world.nd rfl (.inl rfl)) (gjs_cons (gj_name (nm rfl) sc_read_world.nd rfl (.inl rfl)) gjs_nil))) (sjs_cons (sj_set (i := 4) (fz := true) (ej_call d_body_in (by decide) rfl rfl hr (by decide) (by rfl) (L2.takes_of rfl rfl rfl rfl) (aj_cons (ej_v (L2.pv 3)) aj_nil)) (nm rfl) sc_read_world.nd rfl (.inl rfl))
    (sjs_cons (sj_if ((wj_or (tj_is (ej_v (L2.pv 4)) ej_non) (wj_or1 (tj_eq rfl (u128 hr) (ej_v (L2.pv 2)) (ej_gi rfl (by rfl) g_MOST_BODIES))))).tj (sjs_one (sj_raiseI (fl := ["line"]) rfl rfl rfl hr (by decide) (L2.takes_of rfl rfl rfl rfl) i_NoText passes0 (by rfl) (aj_cons (ej_v (L2.pv 2)) aj_nil))) sjs_nil)
    (sjs_cons (sj_if ((wj_and (tj_ne rfl (u128 hr) (ej_r (L2.pv 1)) (ej_lst aj_nil)) (wj_and1 (tj_not (tj_val (ej_call d_under (by decide) rfl rfl hr (by decide) (by rfl) (L2.takes_of rfl rfl rfl rfl) (aj_cons (ej_ix rfl (fun _ _ => rfl) (ej_ix rfl (fun _ _ => rfl) (ej_r (L2.pv 1)) (ej_neg ej_int)) ej_int) (aj_cons (ej_ix rfl (fun _ _ => rfl) (ej_v (L2.pv 4)) ej_int) aj_nil)))))))).tj (sjs_one (sj_raiseI (fl := ["line"]) rfl rfl rfl hr (by decide) (L2.takes_of rfl rfl rfl rfl) i_NoText passes0 (by rfl) (aj_cons (ej_v (L2.pv 2)) aj_nil))) sjs_nil)
    (sjs_one (sj_expr (ej_append rfl (L2.pv 1) (aj_cons (ej_v (L2.pv 4)) aj_nil))))))))
    (sjs_one (sj_ret (ej_m (L2.pv 1))))))))
    )
theorem sc__law_told : L2.FnScope ["text", "found", "e"] ["text"] (L2.defScope (topS 44)) := ⟨rfl, rfl, rfl, by decide +kernel, rfl, by decide +kernel, by decide +kernel⟩
theorem ok__law_told {P : Program} {w : World} {K : PySem.W.Frag} {mg : Str → Option Value} {base : Heap} (a__law_told : At K mg "_law_told" "_law_told" (topS 44) ["text"]) (m_NoText_KnockError : XM K mg "NoText" "KnockError" true) (d_read_world : Def P w K mg base 5 "read_world" ["text"] [false] F_read_world) (k_NoText_NoBody : KN K mg "NoText" "NoBody" false) (k_NoText_NoNumber : KN K mg "NoText" "NoNumber" false) (k_NoText_NoWorld : KN K mg "NoText" "NoWorld" false) (k_NoText_TooMany : KN K mg "NoText" "TooMany" false) (k_NoText_ValueError : KN K mg "NoText" "ValueError" true) (k_NoText_NoText : KN K mg "NoText" "NoText" true) (f_NoText_line : XFl K mg "NoText" "line") (z_isinstance : mg "isinstance" = none) :
  DefR P w K mg base 6 "_law_told" ["text"] [false] (defF [false] 3 sf__law_told) :=
  DefR.mk' (k := 5) a__law_told sc__law_told rfl (by decide) (fun f cdv A outer s H E Z H0 io zd zi s0 hr =>
    ((sjs_cons (sj_tryas (i := 2) (L := [("NoText", true)]) rfl rfl sc__law_told.nd rfl rfl rfl rfl (by rfl) (L2.takes_of rfl rfl rfl rfl) (nm rfl) (fun x => (by repeat' first | with_reducible exact nxS_mono | with_reducible exact retNS_mono | with_reducible refine retS_mono ?_ | with_reducible refine ifS_mono ?_ ?_ ?_ | with_reducible refine seqS_mono ?_ ?_ | with_reducible refine setS_mono ?_ | with_reducible refine MonoB.bT ?_ | with_reducible refine notT_mono ?_ | with_reducible refine andT_mono ?_ ?_ | with_reducible refine orT_mono ?_ ?_ | with_reducible exact cE_mono | with_reducible exact vE_mono | with_reducible exact kinE_mono | with_reducible exact xfE_mono | with_reducible refine tupE_mono ?_ | with_reducible refine lstE_mono ?_ | with_reducible refine consA_mono ?_ ?_ | with_reducible exact nilA_mono | with_reducible refine callV_mono ?_ ?_ | with_reducible exact isiC_mono | with_reducible refine andV_mono ?_ ?_ | with_reducible refine orV_mono ?_ ?_ | with_reducible refine notV_mono ?_ | with_reducible refine mono_bin ?_ ?_ ?_ | with_reducible exact eqR_mono | with_reducible exact ixR_mono | with_reducible exact intC_mono)) ("NoText", true) _ rfl (fm1 m_NoText_KnockError fm0) (fun W pn xe tk po =>
    (sjs_one (sj_set (i := 1) (fz := true) (ej_call d_read_world (by decide) rfl rfl hr (by decide) (by rfl) tk (aj_cons (ej_v (L2.pv 0)) aj_nil)) (nm rfl) sc__law_told.nd rfl (.inl rfl)))) (fun a oe cls d pn M0 H0 x hx hz hd =>
    (sjs_cons (sj_if ((wj_or (tj_val (ej_isxs (ys := ["NoBody", "NoNumber", "NoWorld", "TooMany"]) (L := [("NoText", false)]) ("NoText", false) _ rfl hx hz hd rfl rfl (by rfl) z_isinstance (by decide +kernel) (fm1 (kns_cons k_NoText_NoBody (kns_cons k_NoText_NoNumber (kns_cons k_NoText_NoWorld (kns_one k_NoText_TooMany)))) fm0) (L2.pv 2) (by decide) (.cons (by rfl) (by decide) (.cons (by rfl) (by decide) (.cons (by rfl) (by decide) (.cons (by rfl) (by decide) .nil)))))) (wj_or1 (tj_not (tj_val (ej_isx (L := [("NoText", true)]) ("NoText", true) _ rfl hx hz hd rfl rfl (by rfl) z_isinstance (by decide +kernel) (fm1 k_NoText_ValueError fm0) (L2.pv 2) (by rfl))))))).tj (sjs_one (sj_ret ej_non)) sjs_nil)
    (sjs_cons (sj_if (tj_val (ej_isx (L := [("NoText", true)]) ("NoText", true) _ rfl hx hz hd rfl rfl (by rfl) z_isinstance (by decide +kernel) (fm1 k_NoText_NoText fm0) (L2.pv 2) (by rfl))) (sjs_one (sj_ret (ej_xf hx hz hd rfl f_NoText_line (L2.pv 2)))) sjs_nil)
    (sjs_one (sj_ret ej_non))))))
    (sjs_one (sj_ret (ej_v (L2.pv 1))))))
    )
theorem sc__law_figures : L2.FnScope ["word", "sign"] ["word"] (L2.defScope (topS 41)) := ⟨rfl, rfl, rfl, by decide +kernel, rfl, by decide +kernel, by decide +kernel⟩
theorem ok__law_figures {P : Program} {w : World} {K : PySem.W.Frag} {mg : Str → Option Value} {base : Heap} (a__law_figures : At K mg "_law_figures" "_law_figures" (topS 41) ["word"]) (z_int : mg "int" = none) (z_len : mg "len" = none) :
  DefR P w K mg base 1 "_law_figures" ["word"] [false] (defF [false] 2 sf__law_figures) :=
  DefR.mk' (k := 0) a__law_figures sc__law_figures rfl (by decide) (fun f cdv A outer s H E Z H0 io zd zi s0 hr =>
    ((sjs_cons (sj_if ((wj_or (tj_not (tj_chain L2.op_le L2.op_le ej_int (ej_callB L2.call_len lenC_mono (lenC_says rfl) (by rfl) z_len (by decide +kernel) (aj_cons (ej_v (L2.pv 0)) aj_nil)) ej_int)) (wj_or1 ((wj_and (tj_gt (ej_callB L2.call_len lenC_mono (lenC_says rfl) (by rfl) z_len (by decide +kernel) (aj_cons (ej_v (L2.pv 0)) aj_nil)) ej_int) (wj_and1 (tj_eq rfl (u128 hr) (ej_ix rfl (fun _ _ => rfl) (ej_v (L2.pv 0)) ej_int) ej_str)))).tj))).tj (sjs_one (sj_ret ej_non)) sjs_nil)
    (sjs_cons (sj_if (tj_ne rfl (u128 hr) (ej_lc (own := [("sign", 1)]) rfl sc__law_figures.nd (by first | (simp; done) | (simp [frB, frOf, maskAt]; done)) (ij_str (ej_v (L2.pv 0))) (blk_ok (N := ["word", "sign"]) (sc := L2.defScope (topS 41)) rfl rfl (by decide +kernel)) (fun _ _ _ _ _ => (gw_name (by simp) (nm rfl) sc__law_figures.nd rfl (.inl rfl) (.inr rfl))) (fun _ _ _ _ _ => (tjs_one (tj_notinS (ej_v (L2.pv 1)) ej_str))) (fun _ _ _ _ _ => (ej_v (L2.pv 1)))) (ej_lst aj_nil)) (sjs_one (sj_ret ej_non)) sjs_nil)
    (sjs_one (sj_ret (ej_callTy L2.call_int_str intTC_mono intTC_says (by rfl) z_int (by decide +kernel) (aj_cons (ej_v (L2.pv 0)) aj_nil)))))))
    )
theorem sc__law_fraction : L2.FnScope ["word", "below", "parts", "found", "part"] ["word"] (L2.defScope (topS 42)) := ⟨rfl, rfl, rfl, by decide +kernel, rfl, by decide +kernel, by decide +kernel⟩
theorem ok__law_fraction {P : Program} {w : World} {K : PySem.W.Frag} {mg : Str → Option Value} {base : Heap} (a__law_fraction : At K mg "_law_fraction" "_law_fraction" (topS 42) ["word"]) (d__law_figures : Def P w K mg base 1 "_law_figures" ["word"] [false] F__law_figures) (d__law_fit : Def P w K mg base 1 "_law_fit" ["top", "bottom"] [false, false] F__law_fit) (z_int : mg "int" = none) (z_len : mg "len" = none) :
  DefR P w K mg base 2 "_law_fraction" ["word"] [false] (defF [false] 5 sf__law_fraction) :=
  DefR.mk' (k := 1) a__law_fraction sc__law_fraction rfl (by decide) (fun f cdv A outer s H E Z H0 io zd zi s0 hr =>
    ((sjs_cons (sj_set (i := 1) (fz := true) (ej_eq rfl (u128 hr) (ej_slZ (ej_v (L2.pv 0)) oj_none (oj_some ej_int)) ej_str) (nm rfl) sc__law_fraction.nd rfl (.inl rfl))
    (sjs_cons (sj_setlc (own := [("part", 4)]) (i := 2) (fz := true) (nm rfl) rfl rfl rfl rfl sc__law_fraction.nd (by first | (simp; done) | (simp [frB, frOf, maskAt]; done)) (ij_seq rfl (ej_split (ej_slZ (ej_v (L2.pv 0)) (oj_some (ej_callTy L2.call_int1 intC_mono intC_says (by rfl) z_int (by decide +kernel) (aj_cons (ej_v (L2.pv 1)) aj_nil))) oj_none) ej_str)) (blk_ok (N := ["word", "below", "parts", "found", "part"]) (sc := L2.defScope (topS 42)) rfl rfl (by decide +kernel)) (fun _ _ _ _ _ => (gw_name (by simp) (nm rfl) sc__law_fraction.nd rfl (.inl rfl) (.inr rfl))) (fun _ _ _ _ _ => tjs_nil) (fun _ _ _ _ _ => (ej_call d__law_figures (by decide) rfl rfl hr (by decide) (by rfl) L2.takes0 (aj_cons (ej_v (L2.pv 4)) aj_nil))))
    (sjs_cons (sj_if ((wj_or (tj_in rfl (u128 hr) ej_non (ej_v (L2.pv 2))) (wj_or (tj_gt (ej_callB L2.call_len lenC_mono (lenC_says rfl) (by rfl) z_len (by decide +kernel) (aj_cons (ej_v (L2.pv 2)) aj_nil)) ej_int) (wj_or1 ((wj_and (tj_val (ej_v (L2.pv 1))) (wj_and1 (tj_eq rfl (u128 hr) (ej_ix rfl (fun _ _ => rfl) (ej_v (L2.pv 2)) ej_int) ej_int)))).tj)))).tj (sjs_one (sj_ret ej_non)) sjs_nil)
    (sjs_cons (sj_set (i := 3) (fz := true) (ej_tup (aj_cons (ej_mul (ej_ix rfl (fun _ _ => rfl) (ej_v (L2.pv 2)) ej_int) (ej_ix rfl (fun _ _ => rfl) (ej_lst (aj_cons ej_int (aj_cons (ej_neg ej_int) aj_nil))) (ej_callTy L2.call_int1 intC_mono intC_says (by rfl) z_int (by decide +kernel) (aj_cons (ej_v (L2.pv 1)) aj_nil)))) (aj_cons (ej_ix rfl (fun _ _ => rfl) (ej_add rfl (ej_v (L2.pv 2)) (ej_lst (aj_cons ej_int aj_nil))) ej_int) aj_nil)) rfl) (nm rfl) sc__law_fraction.nd rfl (.inl rfl))
    (sjs_cons (sj_if ((wj_or (tj_eq rfl (u128 hr) (ej_ix rfl (fun _ _ => rfl) (ej_v (L2.pv 3)) ej_int) ej_int) (wj_or ((wj_and (tj_eq rfl (u128 hr) (ej_callB L2.call_len lenC_mono (lenC_says rfl) (by rfl) z_len (by decide +kernel) (aj_cons (ej_v (L2.pv 2)) aj_nil)) ej_int) (wj_and1 (tj_eq rfl (u128 hr) (ej_ix rfl (fun _ _ => rfl) (ej_v (L2.pv 3)) ej_int) ej_int)))).tj (wj_or1 (tj_ne rfl (u128 hr) (ej_call d__law_fit (by decide) rfl rfl hr (by decide) (by rfl) (L2.takes_of rfl rfl rfl rfl) (aj_cons (ej_ix rfl (fun _ _ => rfl) (ej_v (L2.pv 3)) ej_int) (aj_cons (ej_ix rfl (fun _ _ => rfl) (ej_v (L2.pv 3)) ej_int) aj_nil))) (ej_v (L2.pv 3))))))).tj (sjs_one (sj_ret ej_non)) sjs_nil)
    (sjs_one (sj_ret (ej_v (L2.pv 3))))))))))
    )
theorem sc__law_less : L2.FnScope ["one", "other"] ["one", "other"] (L2.defScope (topS 31)) := ⟨rfl, rfl, rfl, by decide +kernel, rfl, by decide +kernel, by decide +kernel⟩
theorem ok__law_less {P : Program} {w : World} {K : PySem.W.Frag} {mg : Str → Option Value} {base : Heap} (a__law_less : At K mg "_law_less" "_law_less" (topS 31) ["one", "other"]) :
  DefR P w K mg base 1 "_law_less" ["one", "other"] [false, false] (defF [false, false] 2 sf__law_less) :=
  DefR.mk' (k := 0) a__law_less sc__law_less rfl (by decide) (fun f cdv A outer s H E Z H0 io zd zi s0 hr =>
    ((sjs_one (sj_ret (ej_lt (ej_mul (ej_ix rfl (fun _ _ => rfl) (ej_v (L2.pv 0)) ej_int) (ej_ix rfl (fun _ _ => rfl) (ej_v (L2.pv 1)) ej_int)) (ej_mul (ej_ix rfl (fun _ _ => rfl) (ej_v (L2.pv 1)) ej_int) (ej_ix rfl (fun _ _ => rfl) (ej_v (L2.pv 0)) ej_int))))))
    )
theorem sc__law_read : L2.FnScope ["text", "rows", "where", "line", "words", "body"] ["text"] (L2.defScope (topS 43)) := ⟨rfl, rfl, rfl, by decide +kernel, rfl, by decide +kernel, by decide +kernel⟩
theorem ok__law_read {P : Program} {w : World} {K : PySem.W.Frag} {mg : Str → Option Value} {base : Heap} (a__law_read : At K mg "_law_read" "_law_read" (topS 43) ["text"]) (d__law_fraction : Def P w K mg base 2 "_law_fraction" ["word"] [false] F__law_fraction) (d__law_figures : Def P w K mg base 1 "_law_figures" ["word"] [false] F__law_figures) (d__law_less : Def P w K mg base 1 "_law_less" ["one", "other"] [false, false] F__law_less) (z_enumerate : mg "enumerate" = none) (z_len : mg "len" = none) :
  DefR P w K mg base 3 "_law_read" ["text"] [false] (defF [false] 6 sf__law_read) :=
  DefR.mk' (k := 2) a__law_read sc__law_read rfl (by decide) (fun f cdv A outer s H E Z H0 io zd zi s0 hr =>
    ((sjs_cons (sj_set (i := 1) (fz := false) (ej_lst aj_nil) (nm rfl) sc__law_read.nd rfl (.inl rfl))
    (sjs_cons (sj_for (L2.passes_of rfl) rfl (ij_enum rfl (by rfl) z_enumerate (aj_cons (ej_split (ej_v (L2.pv 0)) ej_str) aj_nil)) (gj_tup rfl rfl (gjs_cons (gj_name (nm rfl) sc__law_read.nd rfl (.inl rfl)) (gjs_cons (gj_name (nm rfl) sc__law_read.nd rfl (.inl rfl)) gjs_nil))) (sjs_cons (sj_set (i := 4) (fz := true) (ej_split (ej_v (L2.pv 3)) ej_str) (nm rfl) sc__law_read.nd rfl (.inl rfl))
    (sjs_cons (sj_if ((wj_or (tj_ne rfl (u128 hr) (ej_callB L2.call_len lenC_mono (lenC_says rfl) (by rfl) z_len (by decide +kernel) (aj_cons (ej_v (L2.pv 4)) aj_nil)) ej_int) (wj_or1 (tj_eq rfl (u128 hr) (ej_v (L2.pv 2)) ej_int)))).tj (sjs_one (sj_ret (ej_v (L2.pv 2)))) sjs_nil)
    (sjs_cons (sj_set (i := 5) (fz := true) (ej_tup (aj_cons (ej_call d__law_fraction (by decide) rfl rfl hr (by decide) (by rfl) (L2.takes_of rfl rfl rfl rfl) (aj_cons (ej_ix rfl (fun _ _ => rfl) (ej_v (L2.pv 4)) ej_int) aj_nil)) (aj_cons (ej_call d__law_fraction (by decide) rfl rfl hr (by decide) (by rfl) (L2.takes_of rfl rfl rfl rfl) (aj_cons (ej_ix rfl (fun _ _ => rfl) (ej_v (L2.pv 4)) ej_int) aj_nil)) (aj_cons (ej_call d__law_figures (by decide) rfl rfl hr (by decide) (by rfl) (L2.takes_of rfl rfl rfl rfl) (aj_cons (ej_ix rfl (fun _ _ => rfl) (ej_v (L2.pv 4)) ej_int) aj_nil)) aj_nil))) rfl) (nm rfl) sc__law_read.nd rfl (.inl rfl))
    (sjs_cons (sj_if ((wj_or (tj_inT rfl (u128 hr) ej_non (ej_v (L2.pv 5))) (wj_or1 (tj_not (tj_chain L2.op_le L2.op_le ej_int (ej_ix rfl (fun _ _ => rfl) (ej_v (L2.pv 5)) ej_int) ej_int))))).tj (sjs_one (sj_ret (ej_v (L2.pv 2)))) sjs_nil)
    (sjs_cons (sj_if ((wj_and (tj_ne rfl (u128 hr) (ej_r (L2.pv 1)) (ej_lst aj_nil)) (wj_and1 (tj_not (tj_val (ej_call d__law_less (by decide) rfl rfl hr (by decide) (by rfl) (L2.takes_of rfl rfl rfl rfl) (aj_cons (ej_ix rfl (fun _ _ => rfl) (ej_ix rfl (fun _ _ => rfl) (ej_r (L2.pv 1)) (ej_neg ej_int)) ej_int) (aj_cons (ej_ix rfl (fun _ _ => rfl) (ej_v (L2.pv 5)) ej_int) aj_nil)))))))).tj (sjs_one (sj_ret (ej_v (L2.pv 2)))) sjs_nil)
    (sjs_one (sj_expr (ej_append rfl (L2.pv 1) (aj_cons (ej_v (L2.pv 5)) aj_nil))))))))))
    (sjs_one (sj_ret (ej_m (L2.pv 1)))))))
    )
theorem sc__law_whole : L2.FnScope ["thing"] ["thing"] (L2.defScope (topS 34)) := ⟨rfl, rfl, rfl, by decide +kernel, rfl, by decide +kernel, by decide +kernel⟩
theorem ok__law_whole {P : Program} {w : World} {K : PySem.W.Frag} {mg : Str → Option Value} {base : Heap} (a__law_whole : At K mg "_law_whole" "_law_whole" (topS 34) ["thing"]) (z_bool : mg "bool" = none) (z_int : mg "int" = none) (z_isinstance : mg "isinstance" = none) :
  DefR P w K mg base 1 "_law_whole" ["thing"] [false] (defF [false] 1 sf__law_whole) :=
  DefR.mk' (k := 0) a__law_whole sc__law_whole rfl (by decide) (fun f cdv A outer s H E Z H0 io zd zi s0 hr =>
    ((sjs_one (sj_ret (ej_and (ej_callB L2.call_isi isiC_mono (isiC_says rfl kb_ok) (by rfl) z_isinstance (by decide +kernel) (aj_cons (ej_v (L2.pv 0)) (aj_cons (ej_ty (by rfl) z_int (by decide +kernel)) aj_nil))) (ej_one (ej_not (ej_callB L2.call_isi isiC_mono (isiC_says rfl kb_ok) (by rfl) z_isinstance (by decide +kernel) (aj_cons (ej_v (L2.pv 0)) (aj_cons (ej_ty (by rfl) z_bool (by decide +kernel)) aj_nil)))))))))
    )
theorem sc_law : L2.FnScope ["script", "k", "box", "world", "turn", "text", "found", "due", "odd"] ["script"] (L2.defScope (topS 45)) := ⟨rfl, rfl, rfl, by decide +kernel, rfl, by decide +kernel, by decide +kernel⟩
theorem ok_law {P : Program} {w : World} {K : PySem.W.Frag} {mg : Str → Option Value} {base : Heap} (a_law : At K mg "law" "law" (topS 45) ["script"]) (d__law_box : Def P w K mg base 2 "_law_box" ["script", "k"] [false, false] F__law_box) (d__law_world : Def P w K mg base 3 "_law_world" ["box"] [true] F__law_world) (d__law_turned : Def P w K mg base 3 "_law_turned" ["box", "world"] [true, false] F__law_turned) (d__law_told : Def P w K mg base 6 "_law_told" ["text"] [false] F__law_told) (d__law_read : Def P w K mg base 3 "_law_read" ["text"] [false] F__law_read) (d__law_whole : Def P w K mg base 1 "_law_whole" ["thing"] [false] F__law_whole) (d__law_odd : Def P w K mg base 2 "_law_odd" ["box"] [true] F__law_odd) (d__law_text : Def P w K mg base 2 "_law_text" ["world"] [false] F__law_text) (z_isinstance : mg "isinstance" = none) (z_len : mg "len" = none) (z_list : mg "list" = none) (z_max : mg "max" = none) (z_min : mg "min" = none) (z_range : mg "range" = none) (z_str : mg "str" = none) :
  DefR P w K mg base 7 "law" ["script"] [false] (defF [false] 9 sf_law) :=
  DefR.mk' (k := 6) a_law sc_law rfl (by decide) (fun f cdv A outer s H E Z H0 io zd zi s0 hr =>
    ((sjs_cons (sj_for (L2.passes_of rfl) rfl (ij_range1 (by rfl) z_range (aj_cons (ej_callB (L2.call_max2 rfl) mmC_mono maxC_says (by rfl) z_max (by decide +kernel) (aj_cons ej_int (aj_cons (ej_callB (L2.call_min2 rfl) mmC_mono minC_says (by rfl) z_min (by decide +kernel) (aj_cons (ej_callB L2.call_len lenC_mono (lenC_says rfl) (by rfl) z_len (by decide +kernel) (aj_cons (ej_v (L2.pv 0)) aj_nil)) (aj_cons ej_int aj_nil))) aj_nil))) aj_nil)) (gj_name (nm rfl) sc_law.nd rfl (.inl rfl)) (sjs_cons (sj_set (i := 2) (fz := false) (ej_call d__law_box (by decide) rfl rfl hr (by decide) (by rfl) (L2.takes_of rfl rfl rfl rfl) (aj_cons (ej_v (L2.pv 0)) (aj_cons (ej_v (L2.pv 1)) aj_nil))) (nm rfl) sc_law.nd rfl (.inl rfl))
    (sjs_cons (sj_set (i := 3) (fz := true) (ej_slX rfl (ej_callI (i := 2) (kk := 0) (mm := 0) d__law_world rfl rfl rfl hr (by decide) (by rfl) (L2.takes_of rfl rfl rfl rfl) (aji_here (L2.pv 2) aj_nil)) oj_none (oj_some ej_int)) (nm rfl) sc_law.nd rfl (.inl rfl))
    (sjs_cons (sj_for (L2.passes_of rfl) rfl (ij_range1 (by rfl) z_range (aj_cons ej_int aj_nil)) (gj_name (nm rfl) sc_law.nd rfl (.inl rfl)) (sjs_cons (sj_set (i := 5) (fz := true) (ej_callI (i := 2) (kk := 0) (mm := 1) d__law_turned rfl rfl rfl hr (by decide) (by rfl) (L2.takes_of rfl rfl rfl rfl) (aji_here (L2.pv 2) (aj_cons (ej_v (L2.pv 3)) aj_nil))) (nm rfl) sc_law.nd rfl (.inl rfl))
    (sjs_cons (sj_set (i := 6) (fz := true) (ej_call d__law_told (by decide) rfl rfl hr (by decide) (by rfl) (L2.takes_of rfl rfl rfl rfl) (aj_cons (ej_v (L2.pv 5)) aj_nil)) (nm rfl) sc_law.nd rfl (.inl rfl))
    (sjs_cons (sj_set (i := 7) (fz := true) (ej_call d__law_read (by decide) rfl rfl hr (by decide) (by rfl) (L2.takes_of rfl rfl rfl rfl) (aj_cons (ej_v (L2.pv 5)) aj_nil)) (nm rfl) sc_law.nd rfl (.inl rfl))
    (sjs_cons (sj_if ((wj_or (tj_ne rfl (u128 hr) (ej_callB L2.call_isi isiC_mono (isiC_says rfl kb_ok) (by rfl) z_isinstance (by decide +kernel) (aj_cons (ej_v (L2.pv 7)) (aj_cons (ej_ty (by rfl) z_list (by decide +kernel)) aj_nil))) (ej_callB L2.call_isi isiC_mono (isiC_says rfl kb_ok) (by rfl) z_isinstance (by decide +kernel) (aj_cons (ej_v (L2.pv 6)) (aj_cons (ej_ty (by rfl) z_list (by decide +kernel)) aj_nil)))) (wj_or1 (tj_ne rfl (u128 hr) (ej_v (L2.pv 6)) (ej_v (L2.pv 7)))))).tj (sjs_one (sj_ret ej_bl)) sjs_nil)
    (sjs_one (sj_if ((wj_and (tj_not (tj_val (ej_callB L2.call_isi isiC_mono (isiC_says rfl kb_ok) (by rfl) z_isinstance (by decide +kernel) (aj_cons (ej_v (L2.pv 7)) (aj_cons (ej_ty (by rfl) z_list (by decide +kernel)) aj_nil))))) (wj_and1 (tj_not (tj_val (ej_call d__law_whole (by decide) rfl rfl hr (by decide) (by rfl) (L2.takes_of rfl rfl rfl rfl) (aj_cons (ej_v (L2.pv 6)) aj_nil))))))).tj (sjs_one (sj_ret ej_bl)) sjs_nil)))))))
    (sjs_cons (sj_set (i := 8) (fz := true) (ej_callI (i := 2) (kk := 0) (mm := 0) d__law_odd rfl rfl rfl hr (by decide) (by rfl) (L2.takes_of rfl rfl rfl rfl) (aji_here (L2.pv 2) aj_nil)) (nm rfl) sc_law.nd rfl (.inl rfl))
    (sjs_cons (sj_if ((wj_and (tj_not (tj_val (ej_callB L2.call_isi isiC_mono (isiC_says rfl kb_ok) (by rfl) z_isinstance (by decide +kernel) (aj_cons (ej_v (L2.pv 8)) (aj_cons (ej_ty (by rfl) z_str (by decide +kernel)) aj_nil))))) (wj_and1 ((wj_or (tj_ne rfl (u128 hr) (ej_call d__law_told (by decide) rfl rfl hr (by decide) (by rfl) (L2.takes_of rfl rfl rfl rfl) (aj_cons (ej_v (L2.pv 8)) aj_nil)) ej_int) (wj_or1 (tj_not (tj_val (ej_call d__law_whole (by decide) rfl rfl hr (by decide) (by rfl) (L2.takes_of rfl rfl rfl rfl) (aj_cons (ej_call d__law_told (by decide) rfl rfl hr (by decide) (by rfl) (L2.takes_of rfl rfl rfl rfl) (aj_cons (ej_v (L2.pv 8)) aj_nil)) aj_nil))))))).tj))).tj (sjs_one (sj_ret ej_bl)) sjs_nil)
    (sjs_one (sj_if ((wj_or (tj_ne rfl (u128 hr) (ej_call d__law_told (by decide) rfl rfl hr (by decide) (by rfl) (L2.takes_of rfl rfl rfl rfl) (aj_cons (ej_lst (aj_cons (ej_call d__law_text (by decide) rfl rfl hr (by decide) (by rfl) (L2.takes_of rfl rfl rfl rfl) (aj_cons (ej_v (L2.pv 3)) aj_nil)) aj_nil)) aj_nil)) ej_int) (wj_or1 (tj_ne rfl (u128 hr) (ej_call d__law_told (by decide) rfl rfl hr (by decide) (by rfl) (L2.takes_of rfl rfl rfl rfl) (aj_cons ej_str aj_nil)) ej_int)))).tj (sjs_one (sj_ret ej_bl)) sjs_nil))))))))
    (sjs_one (sj_ret ej_bl))))
    )
theorem law_def {P : Program} {w : World} {K : PySem.W.Frag} {mg : Str → Option Value} (base : Heap) (a__law_cell : At K mg "_law_cell" "_law_cell" (topS 25) ["script", "k"]) (z_len : mg "len" = none) (a__law_mix : At K mg "_law_mix" "_law_mix" (topS 26) ["cell", "k"]) (a__law_box : At K mg "_law_box" "_law_box" (topS 27) ["script", "k"]) (z_range : mg "range" = none) (a__law_take : At K mg "_law_take" "_law_take" (topS 28) ["box", "many"]) (z_divmod : mg "divmod" = none) (a__law_odd : At K mg "_law_odd" "_law_odd" (topS 35) ["box"]) (a__law_fit : At K mg "_law_fit" "_law_fit" (topS 29) ["top", "bottom"]) (z_abs : mg "abs" = none) (a__law_small : At K mg "_law_small" "_law_small" (topS 32) ["box"]) (a__law_plus : At K mg "_law_plus" "_law_plus" (topS 30) ["one", "other"]) (a__law_world : At K mg "_law_world" "_law_world" (topS 33) ["box"]) (a__law_shown : At K mg "_law_shown" "_law_shown" (topS 36) ["one"]) (z_str : mg "str" = none) (a__law_text : At K mg "_law_text" "_law_text" (topS 37) ["world"]) (a__law_bent : At K mg "_law_bent" "_law_bent" (topS 38) ["box", "text"]) (a__law_worded : At K mg "_law_worded" "_law_worded" (topS 39) ["box", "lines"]) (a__law_turned : At K mg "_law_turned" "_law_turned" (topS 40) ["box", "world"]) (a_whole_in : At K mg "whole_in" "whole_in" (topS 20) ["word"]) (g_MOST_FIGURES : ∃ t, mg "MOST_FIGURES" = some (.int (100) t)) (g_FIGURES : GD K mg "FIGURES" gv_FIGURES) (z_int : mg "int" = none) (a_is_whole : At K mg "is_whole" "is_whole" (topS 8) ["thing"]) (z_bool : mg "bool" = none) (z_isinstance : mg "isinstance" = none) (a_divisor : At K mg "divisor" "divisor" (topS 10) ["one", "other"]) (a_size_of : At K mg "size_of" "size_of" (topS 9) ["number"]) (a_is_fraction : At K mg "is_fraction" "is_fraction" (topS 11) ["thing"]) (z_tuple : mg "tuple" = none) (a_fraction_in : At K mg "fraction_in" "fraction_in" (topS 21) ["word"]) (a_is_body : At K mg "is_body" "is_body" (topS 16) ["thing"]) (g_MOST_WEIGHT : ∃ t, mg "MOST_WEIGHT" = some (.int (1000) t)) (a_body_in : At K mg "body_in" "body_in" (topS 22) ["line"]) (a_under : At K mg "under" "under" (topS 12) ["one", "other"]) (a_read_world : At K mg "read_world" "read_world" (topS 23) ["text"]) (i_NoText : XIni P w K mg base 1 "NoText" ["line"]) (g_MOST_BODIES : ∃ t, mg "MOST_BODIES" = some (.int (12) t)) (z_enumerate : mg "enumerate" = none) (a__law_told : At K mg "_law_told" "_law_told" (topS 44) ["text"]) (m_NoText_KnockError : XM K mg "NoText" "KnockError" true) (k_NoText_NoBody : KN K mg "NoText" "NoBody" false) (k_NoText_NoNumber : KN K mg "NoText" "NoNumber" false) (k_NoText_NoWorld : KN K mg "NoText" "NoWorld" false) (k_NoText_TooMany : KN K mg "NoText" "TooMany" false) (k_NoText_ValueError : KN K mg "NoText" "ValueError" true) (z_ValueError : mg "ValueError" = none) (k_NoText_NoText : KN K mg "NoText" "NoText" true) (f_NoText_line : XFl K mg "NoText" "line") (a__law_figures : At K mg "_law_figures" "_law_figures" (topS 41) ["word"]) (a__law_fraction : At K mg "_law_fraction" "_law_fraction" (topS 42) ["word"]) (a__law_less : At K mg "_law_less" "_law_less" (topS 31) ["one", "other"]) (a__law_read : At K mg "_law_read" "_law_read" (topS 43) ["text"]) (a__law_whole : At K mg "_law_whole" "_law_whole" (topS 34) ["thing"]) (a_law : At K mg "law" "law" (topS 45) ["script"]) (z_list : mg "list" = none) (z_max : mg "max" = none) (z_min : mg "min" = none) :
  Def P w K mg base 7 "law" ["script"] [false] F_law := by
  have d__law_cell := (ok__law_cell (P := P) (w := w) (base := base) a__law_cell z_len).def m__law_cell to__law_cell defF_len
  have d__law_mix := (ok__law_mix (P := P) (w := w) (base := base) a__law_mix ).def m__law_mix to__law_mix defF_len
  have d__law_box := (ok__law_box (P := P) (w := w) (base := base) a__law_box d__law_cell d__law_mix z_range).def m__law_box to__law_box defF_len
  have d__law_take := (ok__law_take (P := P) (w := w) (base := base) a__law_take z_divmod).def m__law_take to__law_take defF_len
  have d__law_odd := (ok__law_odd (P := P) (w := w) (base := base) a__law_odd d__law_take).def m__law_odd to__law_odd defF_len
  have d__law_fit := (ok__law_fit (P := P) (w := w) (base := base) a__law_fit z_abs).def m__law_fit to__law_fit defF_len
  have d__law_small := (ok__law_small (P := P) (w := w) (base := base) a__law_small d__law_fit d__law_take).def m__law_small to__law_small defF_len
  have d__law_plus := (ok__law_plus (P := P) (w := w) (base := base) a__law_plus d__law_fit).def m__law_plus to__law_plus defF_len
  have d__law_world := (ok__law_world (P := P) (w := w) (base := base) a__law_world d__law_take d__law_small d__law_plus d__law_fit z_range).def m__law_world to__law_world defF_len
  have d__law_shown := (ok__law_shown (P := P) (w := w) (base := base) a__law_shown z_str).def m__law_shown to__law_shown defF_len
  have d__law_text := (ok__law_text (P := P) (w := w) (base := base) a__law_text d__law_shown z_str).def m__law_text to__law_text defF_len
  have d__law_bent := (ok__law_bent (P := P) (w := w) (base := base) a__law_bent d__law_take z_len).def m__law_bent to__law_bent defF_len
  have d__law_worded := (ok__law_worded (P := P) (w := w) (base := base) a__law_worded d__law_take z_len).def m__law_worded to__law_worded defF_len
  have d__law_turned := (ok__law_turned (P := P) (w := w) (base := base) a__law_turned d__law_text d__law_take d__law_bent d__law_worded z_len z_range z_str).def m__law_turned to__law_turned defF_len
  have d_whole_in := (ok_whole_in (P := P) (w := w) (base := base) a_whole_in g_MOST_FIGURES g_FIGURES z_int z_len).def m_whole_in to_whole_in defF_len
  have d_is_whole := (ok_is_whole (P := P) (w := w) (base := base) a_is_whole z_bool z_int z_isinstance).def m_is_whole to_is_whole defF_len
  have d_divisor := (ok_divisor (P := P) (w := w) (base := base) a_divisor ).def m_divisor to_divisor defF_len
  have d_size_of := (ok_size_of (P := P) (w := w) (base := base) a_size_of ).def m_size_of to_size_of defF_len
  have d_is_fraction := (ok_is_fraction (P := P) (w := w) (base := base) a_is_fraction d_is_whole d_divisor d_size_of z_isinstance z_len z_tuple).def m_is_fraction to_is_fraction defF_len
  have d_fraction_in := (ok_fraction_in (P := P) (w := w) (base := base) a_fraction_in d_whole_in d_is_fraction z_int z_len).def m_fraction_in to_fraction_in defF_len
  have d_is_body := (ok_is_body (P := P) (w := w) (base := base) a_is_body d_is_fraction d_is_whole g_MOST_WEIGHT z_isinstance z_len z_tuple).def m_is_body to_is_body defF_len
  have d_body_in := (ok_body_in (P := P) (w := w) (base := base) a_body_in d_fraction_in d_whole_in d_is_body z_len).def m_body_in to_body_in defF_len
  have d_under := (ok_under (P := P) (w := w) (base := base) a_under ).def m_under to_under defF_len
  have d_read_world := (ok_read_world (P := P) (w := w) (base := base) a_read_world i_NoText d_body_in g_MOST_BODIES d_under z_enumerate z_isinstance z_str).def m_read_world to_read_world defF_len
  have d__law_told := (ok__law_told (P := P) (w := w) (base := base) a__law_told m_NoText_KnockError d_read_world k_NoText_NoBody k_NoText_NoNumber k_NoText_NoWorld k_NoText_TooMany k_NoText_ValueError k_NoText_NoText f_NoText_line z_isinstance).def m__law_told to__law_told defF_len
  have d__law_figures := (ok__law_figures (P := P) (w := w) (base := base) a__law_figures z_int z_len).def m__law_figures to__law_figures defF_len
  have d__law_fraction := (ok__law_fraction (P := P) (w := w) (base := base) a__law_fraction d__law_figures d__law_fit z_int z_len).def m__law_fraction to__law_fraction defF_len
  have d__law_less := (ok__law_less (P := P) (w := w) (base := base) a__law_less ).def m__law_less to__law_less defF_len
  have d__law_read := (ok__law_read (P := P) (w := w) (base := base) a__law_read d__law_fraction d__law_figures d__law_less z_enumerate z_len).def m__law_read to__law_read defF_len
  have d__law_whole := (ok__law_whole (P := P) (w := w) (base := base) a__law_whole z_bool z_int z_isinstance).def m__law_whole to__law_whole defF_len
  have d_law := (ok_law (P := P) (w := w) (base := base) a_law d__law_box d__law_world d__law_turned d__law_told d__law_read d__law_whole d__law_odd d__law_text z_isinstance z_len z_list z_max z_min z_range z_str).def m_law to_law defF_len
  exact d_law
abbrev stI_NoText : Stmt := methS (topS 6) 0
theorem scI_NoText : L2.FnScope ["self", "line"] ["self", "line"] (L2.defScope stI_NoText) := ⟨rfl, rfl, rfl, by decide +kernel, rfl, by decide +kernel, by decide +kernel⟩
def ddI_NoText : He.DefD := ⟨("NoText", some "__init__"), "__init__", "NoText.__init__", L2.defArgs stI_NoText, L2.defBody stI_NoText, L2.defScope stI_NoText, [], []⟩
def dd__law_cell : He.DefD := ⟨("_law_cell", none), "_law_cell", "_law_cell", L2.defArgs (topS 25), L2.defBody (topS 25), L2.defScope (topS 25), [], []⟩
def dd__law_mix : He.DefD := ⟨("_law_mix", none), "_law_mix", "_law_mix", L2.defArgs (topS 26), L2.defBody (topS 26), L2.defScope (topS 26), [], []⟩
def dd__law_box : He.DefD := ⟨("_law_box", none), "_law_box", "_law_box", L2.defArgs (topS 27), L2.defBody (topS 27), L2.defScope (topS 27), [], []⟩
def dd__law_take : He.DefD := ⟨("_law_take", none), "_law_take", "_law_take", L2.defArgs (topS 28), L2.defBody (topS 28), L2.defScope (topS 28), [], []⟩
def dd__law_odd : He.DefD := ⟨("_law_odd", none), "_law_odd", "_law_odd", L2.defArgs (topS 35), L2.defBody (topS 35), L2.defScope (topS 35), [], []⟩
def dd__law_fit : He.DefD := ⟨("_law_fit", none), "_law_fit", "_law_fit", L2.defArgs (topS 29), L2.defBody (topS 29), L2.defScope (topS 29), [], []⟩
def dd__law_small : He.DefD := ⟨("_law_small", none), "_law_small", "_law_small", L2.defArgs (topS 32), L2.defBody (topS 32), L2.defScope (topS 32), [], []⟩
def dd__law_plus : He.DefD := ⟨("_law_plus", none), "_law_plus", "_law_plus", L2.defArgs (topS 30), L2.defBody (topS 30), L2.defScope (topS 30), [], []⟩
def dd__law_world : He.DefD := ⟨("_law_world", none), "_law_world", "_law_world", L2.defArgs (topS 33), L2.defBody (topS 33), L2.defScope (topS 33), [], []⟩
def dd__law_shown : He.DefD := ⟨("_law_shown", none), "_law_shown", "_law_shown", L2.defArgs (topS 36), L2.defBody (topS 36), L2.defScope (topS 36), [], []⟩
def dd__law_text : He.DefD := ⟨("_law_text", none), "_law_text", "_law_text", L2.defArgs (topS 37), L2.defBody (topS 37), L2.defScope (topS 37), [], []⟩
def dd__law_bent : He.DefD := ⟨("_law_bent", none), "_law_bent", "_law_bent", L2.defArgs (topS 38), L2.defBody (topS 38), L2.defScope (topS 38), [], []⟩
def dd__law_worded : He.DefD := ⟨("_law_worded", none), "_law_worded", "_law_worded", L2.defArgs (topS 39), L2.defBody (topS 39), L2.defScope (topS 39), [], []⟩
def dd__law_turned : He.DefD := ⟨("_law_turned", none), "_law_turned", "_law_turned", L2.defArgs (topS 40), L2.defBody (topS 40), L2.defScope (topS 40), [], []⟩
def dd_whole_in : He.DefD := ⟨("whole_in", none), "whole_in", "whole_in", L2.defArgs (topS 20), L2.defBody (topS 20), L2.defScope (topS 20), [], []⟩
def dd_is_whole : He.DefD := ⟨("is_whole", none), "is_whole", "is_whole", L2.defArgs (topS 8), L2.defBody (topS 8), L2.defScope (topS 8), [], []⟩
def dd_divisor : He.DefD := ⟨("divisor", none), "divisor", "divisor", L2.defArgs (topS 10), L2.defBody (topS 10), L2.defScope (topS 10), [], []⟩
def dd_size_of : He.DefD := ⟨("size_of", none), "size_of", "size_of", L2.defArgs (topS 9), L2.defBody (topS 9), L2.defScope (topS 9), [], []⟩
def dd_is_fraction : He.DefD := ⟨("is_fraction", none), "is_fraction", "is_fraction", L2.defArgs (topS 11), L2.defBody (topS 11), L2.defScope (topS 11), [], []⟩
def dd_fraction_in : He.DefD := ⟨("fraction_in", none), "fraction_in", "fraction_in", L2.defArgs (topS 21), L2.defBody (topS 21), L2.defScope (topS 21), [], []⟩
def dd_is_body : He.DefD := ⟨("is_body", none), "is_body", "is_body", L2.defArgs (topS 16), L2.defBody (topS 16), L2.defScope (topS 16), [], []⟩
def dd_body_in : He.DefD := ⟨("body_in", none), "body_in", "body_in", L2.defArgs (topS 22), L2.defBody (topS 22), L2.defScope (topS 22), [], []⟩
def dd_under : He.DefD := ⟨("under", none), "under", "under", L2.defArgs (topS 12), L2.defBody (topS 12), L2.defScope (topS 12), [], []⟩
def dd_read_world : He.DefD := ⟨("read_world", none), "read_world", "read_world", L2.defArgs (topS 23), L2.defBody (topS 23), L2.defScope (topS 23), [], []⟩
def dd__law_told : He.DefD := ⟨("_law_told", none), "_law_told", "_law_told", L2.defArgs (topS 44), L2.defBody (topS 44), L2.defScope (topS 44), [], []⟩
def dd__law_figures : He.DefD := ⟨("_law_figures", none), "_law_figures", "_law_figures", L2.defArgs (topS 41), L2.defBody (topS 41), L2.defScope (topS 41), [], []⟩
def dd__law_fraction : He.DefD := ⟨("_law_fraction", none), "_law_fraction", "_law_fraction", L2.defArgs (topS 42), L2.defBody (topS 42), L2.defScope (topS 42), [], []⟩
def dd__law_less : He.DefD := ⟨("_law_less", none), "_law_less", "_law_less", L2.defArgs (topS 31), L2.defBody (topS 31), L2.defScope (topS 31), [], []⟩
def dd__law_read : He.DefD := ⟨("_law_read", none), "_law_read", "_law_read", L2.defArgs (topS 43), L2.defBody (topS 43), L2.defScope (topS 43), [], []⟩
def dd__law_whole : He.DefD := ⟨("_law_whole", none), "_law_whole", "_law_whole", L2.defArgs (topS 34), L2.defBody (topS 34), L2.defScope (topS 34), [], []⟩
def dd_law : He.DefD := ⟨("law", none), "law", "law", L2.defArgs (topS 45), L2.defBody (topS 45), L2.defScope (topS 45), [], []⟩
def fn : List He.DefD := [dd__law_cell, dd__law_mix, dd__law_box, dd__law_take, dd__law_odd, dd__law_fit, dd__law_small, dd__law_plus, dd__law_world, dd__law_shown, dd__law_text, dd__law_bent, dd__law_worded, dd__law_turned, dd_whole_in, dd_is_whole, dd_divisor, dd_size_of, dd_is_fraction, dd_fraction_in, dd_is_body, dd_body_in, dd_under, dd_read_world, dd__law_told, dd__law_figures, dd__law_fraction, dd__law_less, dd__law_read, dd__law_whole, dd_law, ddI_NoText]
def gs : List (Str × D) := [("FIGURES", gv_FIGURES)]
def xb : List Xb := [.oex "NoText", .kbs "KnockError"]
def xa : List Xa := [.xf "NoText" "line", .exc "NoText", .own "NoText" "NoBody" false, .own "NoText" "NoNumber" false, .own "NoText" "NoWorld" false, .own "NoText" "TooMany" false, .blt "NoText" "ValueError" "ValueError" true, .own "NoText" "NoText" true]
def fa : List He.Fa := [.glo "_law_cell", .glo "_law_mix", .glo "_law_box", .glo "_law_take", .glo "_law_odd", .glo "_law_fit", .glo "_law_small", .glo "_law_plus", .glo "_law_world", .glo "_law_shown", .glo "_law_text", .glo "_law_bent", .glo "_law_worded", .glo "_law_turned", .glo "whole_in", .glo "is_whole", .glo "divisor", .glo "size_of", .glo "is_fraction", .glo "fraction_in", .glo "is_body", .glo "body_in", .glo "under", .glo "read_world", .glo "_law_told", .glo "_law_figures", .glo "_law_fraction", .glo "_law_less", .glo "_law_read", .glo "_law_whole", .glo "law", .free "len", .free "range", .free "divmod", .free "abs", .free "str", .free "int", .free "bool", .free "isinstance", .free "tuple", .free "enumerate", .free "ValueError", .free "list", .free "max", .free "min", .glo "NoText", .glo "KnockError", .exm "NoText" "KnockError" true, .glo "NoBody", .glo "NoNumber", .glo "NoWorld", .glo "TooMany", .int "MOST_FIGURES" (100), .int "MOST_WEIGHT" (1000), .int "MOST_BODIES" (12)]
abbrev R : PySem.W.OpenRow := PySem.W.OpenLaw.row PySem.Challenge.rw_knockwright_k06_texts_refused
abbrev hk : PySem.W.Hook := hookY 4 fa fn gs xa xb
def ob (s : PySem.W.SharedT) : AlY := obsY 4 fa fn gs xa xb (HandSHeadRun.getT s)
theorem ob_eq (s : PySem.W.SharedT) : ob s = hk.obs s.abs := obsY_eq (HandSHeadRun.getT_eq s)
abbrev loose : List Str := [Str.ofString "KnockError", Str.ofString "NoNumber", Str.ofString "NoBody", Str.ofString "TooMany", Str.ofString "NoWorld", Str.ofString "NoText", Str.ofString "is_whole", Str.ofString "size_of", Str.ofString "divisor", Str.ofString "is_fraction", Str.ofString "under", Str.ofString "MOST_WEIGHT", Str.ofString "MOST_BODIES", Str.ofString "is_body", Str.ofString "FIGURES", Str.ofString "MOST_FIGURES", Str.ofString "whole_in", Str.ofString "fraction_in", Str.ofString "body_in", Str.ofString "read_world", Str.ofString "_law_cell", Str.ofString "_law_mix", Str.ofString "_law_box", Str.ofString "_law_take", Str.ofString "_law_fit", Str.ofString "_law_plus", Str.ofString "_law_less", Str.ofString "_law_small", Str.ofString "_law_world", Str.ofString "_law_whole", Str.ofString "_law_odd", Str.ofString "_law_shown", Str.ofString "_law_text", Str.ofString "_law_bent", Str.ofString "_law_worded", Str.ofString "_law_turned", Str.ofString "_law_figures", Str.ofString "_law_fraction", Str.ofString "_law_read", Str.ofString "_law_told"]
theorem run (w : World) : HandSHeadRun.RunEq R (PySem.W.view R.prog [45]) hk ob 3000 loose w := by
  intro os
  kernel_rfl
theorem law_all {w : World} {K : PySem.W.Frag} {h : Heap} {mg : Str → Option Value} {fa0 : Addr} (X : K.In h) (G : h.Ns mainGlobals mg) (hfa : mg "law" = some (.ref fa0)) (c000 : SaysY' fa fn gs xa xb K) :
    LamX.LawAtS PySem.Challenge.rw_knockwright_k06_texts_refused w K (L2.CX PySem.Challenge.pw_knockwright_k06_texts_refused w) 7 63 "script" mg fa0 h := by
  have c00 := c000.1
  have c0 := c00.1
  have c := c0.1
  have a__law_cell : At K mg "_law_cell" "_law_cell" (topS 25) ["script", "k"] := by
    obtain ⟨fd, F⟩ := c.def_ 0 (d := dd__law_cell) rfl
    exact ⟨_, fd, [], [], F, He.glo_ok X G (c.fact 0 (f := .glo "_law_cell") rfl), L2.FunD.bindsN F fun _ _ _ _ _ _ us hl => match us, hl with | [_, _], _ => rfl⟩
  have a__law_mix : At K mg "_law_mix" "_law_mix" (topS 26) ["cell", "k"] := by
    obtain ⟨fd, F⟩ := c.def_ 1 (d := dd__law_mix) rfl
    exact ⟨_, fd, [], [], F, He.glo_ok X G (c.fact 1 (f := .glo "_law_mix") rfl), L2.FunD.bindsN F fun _ _ _ _ _ _ us hl => match us, hl with | [_, _], _ => rfl⟩
  have a__law_box : At K mg "_law_box" "_law_box" (topS 27) ["script", "k"] := by
    obtain ⟨fd, F⟩ := c.def_ 2 (d := dd__law_box) rfl
    exact ⟨_, fd, [], [], F, He.glo_ok X G (c.fact 2 (f := .glo "_law_box") rfl), L2.FunD.bindsN F fun _ _ _ _ _ _ us hl => match us, hl with | [_, _], _ => rfl⟩
  have a__law_take : At K mg "_law_take" "_law_take" (topS 28) ["box", "many"] := by
    obtain ⟨fd, F⟩ := c.def_ 3 (d := dd__law_take) rfl
    exact ⟨_, fd, [], [], F, He.glo_ok X G (c.fact 3 (f := .glo "_law_take") rfl), L2.FunD.bindsN F fun _ _ _ _ _ _ us hl => match us, hl with | [_, _], _ => rfl⟩
  have a__law_odd : At K mg "_law_odd" "_law_odd" (topS 35) ["box"] := by
    obtain ⟨fd, F⟩ := c.def_ 4 (d := dd__law_odd) rfl
    exact ⟨_, fd, [], [], F, He.glo_ok X G (c.fact 4 (f := .glo "_law_odd") rfl), L2.FunD.bindsN F fun _ _ _ _ _ _ us hl => match us, hl with | [_], _ => rfl⟩
  have a__law_fit : At K mg "_law_fit" "_law_fit" (topS 29) ["top", "bottom"] := by
    obtain ⟨fd, F⟩ := c.def_ 5 (d := dd__law_fit) rfl
    exact ⟨_, fd, [], [], F, He.glo_ok X G (c.fact 5 (f := .glo "_law_fit") rfl), L2.FunD.bindsN F fun _ _ _ _ _ _ us hl => match us, hl with | [_, _], _ => rfl⟩
  have a__law_small : At K mg "_law_small" "_law_small" (topS 32) ["box"] := by
    obtain ⟨fd, F⟩ := c.def_ 6 (d := dd__law_small) rfl
    exact ⟨_, fd, [], [], F, He.glo_ok X G (c.fact 6 (f := .glo "_law_small") rfl), L2.FunD.bindsN F fun _ _ _ _ _ _ us hl => match us, hl with | [_], _ => rfl⟩
  have a__law_plus : At K mg "_law_plus" "_law_plus" (topS 30) ["one", "other"] := by
    obtain ⟨fd, F⟩ := c.def_ 7 (d := dd__law_plus) rfl
    exact ⟨_, fd, [], [], F, He.glo_ok X G (c.fact 7 (f := .glo "_law_plus") rfl), L2.FunD.bindsN F fun _ _ _ _ _ _ us hl => match us, hl with | [_, _], _ => rfl⟩
  have a__law_world : At K mg "_law_world" "_law_world" (topS 33) ["box"] := by
    obtain ⟨fd, F⟩ := c.def_ 8 (d := dd__law_world) rfl
    exact ⟨_, fd, [], [], F, He.glo_ok X G (c.fact 8 (f := .glo "_law_world") rfl), L2.FunD.bindsN F fun _ _ _ _ _ _ us hl => match us, hl with | [_], _ => rfl⟩
  have a__law_shown : At K mg "_law_shown" "_law_shown" (topS 36) ["one"] := by
    obtain ⟨fd, F⟩ := c.def_ 9 (d := dd__law_shown) rfl
    exact ⟨_, fd, [], [], F, He.glo_ok X G (c.fact 9 (f := .glo "_law_shown") rfl), L2.FunD.bindsN F fun _ _ _ _ _ _ us hl => match us, hl with | [_], _ => rfl⟩
  have a__law_text : At K mg "_law_text" "_law_text" (topS 37) ["world"] := by
    obtain ⟨fd, F⟩ := c.def_ 10 (d := dd__law_text) rfl
    exact ⟨_, fd, [], [], F, He.glo_ok X G (c.fact 10 (f := .glo "_law_text") rfl), L2.FunD.bindsN F fun _ _ _ _ _ _ us hl => match us, hl with | [_], _ => rfl⟩
  have a__law_bent : At K mg "_law_bent" "_law_bent" (topS 38) ["box", "text"] := by
    obtain ⟨fd, F⟩ := c.def_ 11 (d := dd__law_bent) rfl
    exact ⟨_, fd, [], [], F, He.glo_ok X G (c.fact 11 (f := .glo "_law_bent") rfl), L2.FunD.bindsN F fun _ _ _ _ _ _ us hl => match us, hl with | [_, _], _ => rfl⟩
  have a__law_worded : At K mg "_law_worded" "_law_worded" (topS 39) ["box", "lines"] := by
    obtain ⟨fd, F⟩ := c.def_ 12 (d := dd__law_worded) rfl
    exact ⟨_, fd, [], [], F, He.glo_ok X G (c.fact 12 (f := .glo "_law_worded") rfl), L2.FunD.bindsN F fun _ _ _ _ _ _ us hl => match us, hl with | [_, _], _ => rfl⟩
  have a__law_turned : At K mg "_law_turned" "_law_turned" (topS 40) ["box", "world"] := by
    obtain ⟨fd, F⟩ := c.def_ 13 (d := dd__law_turned) rfl
    exact ⟨_, fd, [], [], F, He.glo_ok X G (c.fact 13 (f := .glo "_law_turned") rfl), L2.FunD.bindsN F fun _ _ _ _ _ _ us hl => match us, hl with | [_, _], _ => rfl⟩
  have a_whole_in : At K mg "whole_in" "whole_in" (topS 20) ["word"] := by
    obtain ⟨fd, F⟩ := c.def_ 14 (d := dd_whole_in) rfl
    exact ⟨_, fd, [], [], F, He.glo_ok X G (c.fact 14 (f := .glo "whole_in") rfl), L2.FunD.bindsN F fun _ _ _ _ _ _ us hl => match us, hl with | [_], _ => rfl⟩
  have a_is_whole : At K mg "is_whole" "is_whole" (topS 8) ["thing"] := by
    obtain ⟨fd, F⟩ := c.def_ 15 (d := dd_is_whole) rfl
    exact ⟨_, fd, [], [], F, He.glo_ok X G (c.fact 15 (f := .glo "is_whole") rfl), L2.FunD.bindsN F fun _ _ _ _ _ _ us hl => match us, hl with | [_], _ => rfl⟩
  have a_divisor : At K mg "divisor" "divisor" (topS 10) ["one", "other"] := by
    obtain ⟨fd, F⟩ := c.def_ 16 (d := dd_divisor) rfl
    exact ⟨_, fd, [], [], F, He.glo_ok X G (c.fact 16 (f := .glo "divisor") rfl), L2.FunD.bindsN F fun _ _ _ _ _ _ us hl => match us, hl with | [_, _], _ => rfl⟩
  have a_size_of : At K mg "size_of" "size_of" (topS 9) ["number"] := by
    obtain ⟨fd, F⟩ := c.def_ 17 (d := dd_size_of) rfl
    exact ⟨_, fd, [], [], F, He.glo_ok X G (c.fact 17 (f := .glo "size_of") rfl), L2.FunD.bindsN F fun _ _ _ _ _ _ us hl => match us, hl with | [_], _ => rfl⟩
  have a_is_fraction : At K mg "is_fraction" "is_fraction" (topS 11) ["thing"] := by
    obtain ⟨fd, F⟩ := c.def_ 18 (d := dd_is_fraction) rfl
    exact ⟨_, fd, [], [], F, He.glo_ok X G (c.fact 18 (f := .glo "is_fraction") rfl), L2.FunD.bindsN F fun _ _ _ _ _ _ us hl => match us, hl with | [_], _ => rfl⟩
  have a_fraction_in : At K mg "fraction_in" "fraction_in" (topS 21) ["word"] := by
    obtain ⟨fd, F⟩ := c.def_ 19 (d := dd_fraction_in) rfl
    exact ⟨_, fd, [], [], F, He.glo_ok X G (c.fact 19 (f := .glo "fraction_in") rfl), L2.FunD.bindsN F fun _ _ _ _ _ _ us hl => match us, hl with | [_], _ => rfl⟩
  have a_is_body : At K mg "is_body" "is_body" (topS 16) ["thing"] := by
    obtain ⟨fd, F⟩ := c.def_ 20 (d := dd_is_body) rfl
    exact ⟨_, fd, [], [], F, He.glo_ok X G (c.fact 20 (f := .glo "is_body") rfl), L2.FunD.bindsN F fun _ _ _ _ _ _ us hl => match us, hl with | [_], _ => rfl⟩
  have a_body_in : At K mg "body_in" "body_in" (topS 22) ["line"] := by
    obtain ⟨fd, F⟩ := c.def_ 21 (d := dd_body_in) rfl
    exact ⟨_, fd, [], [], F, He.glo_ok X G (c.fact 21 (f := .glo "body_in") rfl), L2.FunD.bindsN F fun _ _ _ _ _ _ us hl => match us, hl with | [_], _ => rfl⟩
  have a_under : At K mg "under" "under" (topS 12) ["one", "other"] := by
    obtain ⟨fd, F⟩ := c.def_ 22 (d := dd_under) rfl
    exact ⟨_, fd, [], [], F, He.glo_ok X G (c.fact 22 (f := .glo "under") rfl), L2.FunD.bindsN F fun _ _ _ _ _ _ us hl => match us, hl with | [_, _], _ => rfl⟩
  have a_read_world : At K mg "read_world" "read_world" (topS 23) ["text"] := by
    obtain ⟨fd, F⟩ := c.def_ 23 (d := dd_read_world) rfl
    exact ⟨_, fd, [], [], F, He.glo_ok X G (c.fact 23 (f := .glo "read_world") rfl), L2.FunD.bindsN F fun _ _ _ _ _ _ us hl => match us, hl with | [_], _ => rfl⟩
  have a__law_told : At K mg "_law_told" "_law_told" (topS 44) ["text"] := by
    obtain ⟨fd, F⟩ := c.def_ 24 (d := dd__law_told) rfl
    exact ⟨_, fd, [], [], F, He.glo_ok X G (c.fact 24 (f := .glo "_law_told") rfl), L2.FunD.bindsN F fun _ _ _ _ _ _ us hl => match us, hl with | [_], _ => rfl⟩
  have a__law_figures : At K mg "_law_figures" "_law_figures" (topS 41) ["word"] := by
    obtain ⟨fd, F⟩ := c.def_ 25 (d := dd__law_figures) rfl
    exact ⟨_, fd, [], [], F, He.glo_ok X G (c.fact 25 (f := .glo "_law_figures") rfl), L2.FunD.bindsN F fun _ _ _ _ _ _ us hl => match us, hl with | [_], _ => rfl⟩
  have a__law_fraction : At K mg "_law_fraction" "_law_fraction" (topS 42) ["word"] := by
    obtain ⟨fd, F⟩ := c.def_ 26 (d := dd__law_fraction) rfl
    exact ⟨_, fd, [], [], F, He.glo_ok X G (c.fact 26 (f := .glo "_law_fraction") rfl), L2.FunD.bindsN F fun _ _ _ _ _ _ us hl => match us, hl with | [_], _ => rfl⟩
  have a__law_less : At K mg "_law_less" "_law_less" (topS 31) ["one", "other"] := by
    obtain ⟨fd, F⟩ := c.def_ 27 (d := dd__law_less) rfl
    exact ⟨_, fd, [], [], F, He.glo_ok X G (c.fact 27 (f := .glo "_law_less") rfl), L2.FunD.bindsN F fun _ _ _ _ _ _ us hl => match us, hl with | [_, _], _ => rfl⟩
  have a__law_read : At K mg "_law_read" "_law_read" (topS 43) ["text"] := by
    obtain ⟨fd, F⟩ := c.def_ 28 (d := dd__law_read) rfl
    exact ⟨_, fd, [], [], F, He.glo_ok X G (c.fact 28 (f := .glo "_law_read") rfl), L2.FunD.bindsN F fun _ _ _ _ _ _ us hl => match us, hl with | [_], _ => rfl⟩
  have a__law_whole : At K mg "_law_whole" "_law_whole" (topS 34) ["thing"] := by
    obtain ⟨fd, F⟩ := c.def_ 29 (d := dd__law_whole) rfl
    exact ⟨_, fd, [], [], F, He.glo_ok X G (c.fact 29 (f := .glo "_law_whole") rfl), L2.FunD.bindsN F fun _ _ _ _ _ _ us hl => match us, hl with | [_], _ => rfl⟩
  have a_law : At K mg "law" "law" (topS 45) ["script"] := by
    obtain ⟨fd, F⟩ := c.def_ 30 (d := dd_law) rfl
    exact ⟨_, fd, [], [], F, He.glo_ok X G (c.fact 30 (f := .glo "law") rfl), L2.FunD.bindsN F fun _ _ _ _ _ _ us hl => match us, hl with | [_], _ => rfl⟩
  have z_len : mg "len" = none := He.free_ok X G (c.fact 31 (f := .free "len") rfl)
  have z_range : mg "range" = none := He.free_ok X G (c.fact 32 (f := .free "range") rfl)
  have z_divmod : mg "divmod" = none := He.free_ok X G (c.fact 33 (f := .free "divmod") rfl)
  have z_abs : mg "abs" = none := He.free_ok X G (c.fact 34 (f := .free "abs") rfl)
  have z_str : mg "str" = none := He.free_ok X G (c.fact 35 (f := .free "str") rfl)
  have z_int : mg "int" = none := He.free_ok X G (c.fact 36 (f := .free "int") rfl)
  have z_bool : mg "bool" = none := He.free_ok X G (c.fact 37 (f := .free "bool") rfl)
  have z_isinstance : mg "isinstance" = none := He.free_ok X G (c.fact 38 (f := .free "isinstance") rfl)
  have z_tuple : mg "tuple" = none := He.free_ok X G (c.fact 39 (f := .free "tuple") rfl)
  have z_enumerate : mg "enumerate" = none := He.free_ok X G (c.fact 40 (f := .free "enumerate") rfl)
  have z_ValueError : mg "ValueError" = none := He.free_ok X G (c.fact 41 (f := .free "ValueError") rfl)
  have z_list : mg "list" = none := He.free_ok X G (c.fact 42 (f := .free "list") rfl)
  have z_max : mg "max" = none := He.free_ok X G (c.fact 43 (f := .free "max") rfl)
  have z_min : mg "min" = none := He.free_ok X G (c.fact 44 (f := .free "min") rfl)
  have m_NoText_KnockError : XM K mg "NoText" "KnockError" true := xm_of (He.glo_ok X G (c.fact 45 (f := .glo "NoText") rfl)) (He.glo_ok X G (c.fact 46 (f := .glo "KnockError") rfl)) (c.fact 47 (f := .exm "NoText" "KnockError" true) rfl)
  have k_NoText_NoBody : KN K mg "NoText" "NoBody" false := kn_own (He.glo_ok X G (c.fact 45 (f := .glo "NoText") rfl)) (He.glo_ok X G (c.fact 48 (f := .glo "NoBody") rfl)) (c00.at_ 1 (x := .exc "NoText") rfl) (c00.at_ 2 (x := .own "NoText" "NoBody" false) rfl)
  have k_NoText_NoNumber : KN K mg "NoText" "NoNumber" false := kn_own (He.glo_ok X G (c.fact 45 (f := .glo "NoText") rfl)) (He.glo_ok X G (c.fact 49 (f := .glo "NoNumber") rfl)) (c00.at_ 1 (x := .exc "NoText") rfl) (c00.at_ 3 (x := .own "NoText" "NoNumber" false) rfl)
  have k_NoText_NoWorld : KN K mg "NoText" "NoWorld" false := kn_own (He.glo_ok X G (c.fact 45 (f := .glo "NoText") rfl)) (He.glo_ok X G (c.fact 50 (f := .glo "NoWorld") rfl)) (c00.at_ 1 (x := .exc "NoText") rfl) (c00.at_ 4 (x := .own "NoText" "NoWorld" false) rfl)
  have k_NoText_TooMany : KN K mg "NoText" "TooMany" false := kn_own (He.glo_ok X G (c.fact 45 (f := .glo "NoText") rfl)) (He.glo_ok X G (c.fact 51 (f := .glo "TooMany") rfl)) (c00.at_ 1 (x := .exc "NoText") rfl) (c00.at_ 5 (x := .own "NoText" "TooMany" false) rfl)
  have k_NoText_ValueError : KN K mg "NoText" "ValueError" true := kn_blt (He.glo_ok X G (c.fact 45 (f := .glo "NoText") rfl)) z_ValueError (c00.at_ 1 (x := .exc "NoText") rfl) (c00.at_ 6 (x := .blt "NoText" "ValueError" "ValueError" true) rfl)
  have k_NoText_NoText : KN K mg "NoText" "NoText" true := kn_own (He.glo_ok X G (c.fact 45 (f := .glo "NoText") rfl)) (He.glo_ok X G (c.fact 45 (f := .glo "NoText") rfl)) (c00.at_ 1 (x := .exc "NoText") rfl) (c00.at_ 7 (x := .own "NoText" "NoText" true) rfl)
  have f_NoText_line : XFl K mg "NoText" "line" := xfl_of (He.glo_ok X G (c.fact 45 (f := .glo "NoText") rfl)) (c00.at_ 1 (x := .exc "NoText") rfl) (c00.at_ 0 (x := .xf "NoText" "line") rfl)
  have kb_NoText : KBase K mg "KnockError" := kbase_of (He.glo_ok X G (c.fact 46 (f := .glo "KnockError") rfl)) (c000.bt 1 (x := .kbs "KnockError") rfl)
  have i_NoText : ∀ base, XIni PySem.Challenge.pw_knockwright_k06_texts_refused w K mg base 1 "NoText" ["line"] := by
    intro base
    obtain ⟨fd, F⟩ := c.def_ 31 (d := ddI_NoText) rfl
    have oe := Xb.oex_ok (c000.bt 0 (x := .oex "NoText") rfl)
    have F' : L2.FunD K "__init__" "NoText.__init__" (L2.defArgs stI_NoText) (L2.defBody stI_NoText) (L2.defScope stI_NoText) _ _ (He.ma K (He.ga K "NoText") "__init__") fd := F
    exact xini1 (He.glo_ok X G (c.fact 45 (f := .glo "NoText") rfl)) oe.1 oe.2.1 oe.2.2 F' (L2.FunD.bindsN F fun _ _ _ _ _ _ us hl => match us, hl with | [_, _], _ => rfl) scI_NoText (of_decide_eq_true (c00.at_ 0 (x := .xf "NoText" "line") rfl)) fun cdv A outer s H E => L2.pss_cons (L2.ps_expr (pe_kinit kb_NoText (by rfl) (L2.pa_cons (L2.pv 0) (L2.pa_cons L2.pe_str L2.pa_nil rfl) rfl))) (L2.pss_one (L2.ps_ost (L2.pv 0) (L2.pv 1)))
  have g_MOST_FIGURES := He.int_ok X G (c.fact 52 (f := .int "MOST_FIGURES" (100)) rfl)
  have g_FIGURES : GD K mg "FIGURES" gv_FIGURES := c0.gd X G (p := ("FIGURES", gv_FIGURES)) (by simp [gs])
  have g_MOST_WEIGHT := He.int_ok X G (c.fact 53 (f := .int "MOST_WEIGHT" (1000)) rfl)
  have g_MOST_BODIES := He.int_ok X G (c.fact 54 (f := .int "MOST_BODIES" (12)) rfl)
  obtain ⟨fd, F⟩ := c.def_ 30 (d := dd_law) rfl
  have b := L2.FunD.bindsA (ps := ["script"]) F fun _ _ _ _ _ _ us hl => match us, hl with | [_], _ => rfl
  exact law_end (st := topS 45) (qual := "law") hfa (He.glo_ok X G (c.fact 30 (f := .glo "law") rfl)) F (fun s v => b s [v] rfl) fun base kb nb => law_def base a__law_cell z_len a__law_mix a__law_box z_range a__law_take z_divmod a__law_odd a__law_fit z_abs a__law_small a__law_plus a__law_world a__law_shown z_str a__law_text a__law_bent a__law_worded a__law_turned a_whole_in g_MOST_FIGURES g_FIGURES z_int a_is_whole z_bool z_isinstance a_divisor a_size_of a_is_fraction z_tuple a_fraction_in a_is_body g_MOST_WEIGHT a_body_in a_under a_read_world (i_NoText base) g_MOST_BODIES z_enumerate a__law_told m_NoText_KnockError k_NoText_NoBody k_NoText_NoNumber k_NoText_NoWorld k_NoText_TooMany k_NoText_ValueError z_ValueError k_NoText_NoText f_NoText_line a__law_figures a__law_fraction a__law_less a__law_read a__law_whole a_law z_list z_max z_min
end VS
open PySem PySem.W PySem.Calls PyProof.Rows
set_option maxHeartbeats 0 in
theorem PySem.Challenge.cw_knockwright_k06_texts_refused_holds : PySem.Challenge.rw_knockwright_k06_texts_refused.Holds := by
  w_on; o_law
  refine HandSHeadRun.head_any (r := OpenLaw.row PySem.Challenge.rw_knockwright_k06_texts_refused) (q := view (OpenLaw.row PySem.Challenge.rw_knockwright_k06_texts_refused).prog [45]) (H := VS.hk) (ob := VS.ob) (M := 3000) (loose := VS.loose) (d := HandSHeadRun.topDef (OpenLaw.row PySem.Challenge.rw_knockwright_k06_texts_refused).prog 45) (kwd := []) VS.ob_eq
    (by kernel_rfl) (fun s => by kernel_rfl) VS.run (by kernel_rfl) (by kernel_rfl) (by kernel_rfl) (by rfl) (by first | assumption | decide +kernel) (by decide +kernel) ⟨rfl, rfl, rfl, rfl, rfl, by decide +kernel⟩ ?hw ?hc
  case hw => w_witness2
  case hc =>
    refine LamX.walk_ofTsE (l := PySem.Challenge.rw_knockwright_k06_texts_refused) (n := 63) (k := 7) (x := "script") (CX := fun w => L2.CX PySem.Challenge.pw_knockwright_k06_texts_refused w) rfl (by decide) (by kernel_rfl) ⟨rfl, by decide, by decide⟩ ?F (fun _ _ _ _ _ h => VS.cx_end h)
    intro w mg fa h Y G hmg0
    obtain ⟨K, KX, c⟩ := Y
    have hmg : mg ("law" : PySem.Str) = some (.ref fa) := by
      have e : (HandSHeadRun.topDef (OpenLaw.row PySem.Challenge.rw_knockwright_k06_texts_refused).prog 45).name = ("law" : PySem.Str) := by kernel_rfl
      rw [← e]
      exact hmg0
    exact ⟨K, KX, VS.law_all KX G hmg c⟩
#print axioms PySem.Challenge.cw_knockwright_k06_texts_refused_holds
