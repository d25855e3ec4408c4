import PyProof.Rows.All
import HandS.ForMost
import HandS.ForExc
import HandS.Wide
import HandS.CallSlots
import KE.DataEq
import HandS.IsInst
import HandS.Defaults
import HandS.More
import HandS.TryOnly
import HandS.ExcField
import KE.KExcIs
import HandS.ExcIs
import HandS.ExcInit
import KE.KStateDown
import HandS.Head0
import HandS.Head1
import HandS.Head2
import HandS.HeadEnd
import HandS.HeadHook1
import HandS.HeadHook2
import HandS.HeadWalk
import HandS.ClsMeth
import HandS.Conv
import HandS.SortInts
import HandS.Dict
import HandS.DictEq
import HandS.DeepEq
import HandS.TupAny
import HandS.TupMul
import HandS.DictComp
import KE.KEqNest
import PyProof.NeKinds
import HandS.Rev
import HandS.RevTup
import HandS.List
import PySem.Challenge.RW_knockwright_k85_whole_clumps_gone_on
set_option Elab.async false
set_option linter.all false
set_option maxRecDepth 100000
set_option maxHeartbeats 4000000
/-! VS1: data without a heap (D: shared, nobody changes it; Sl: owned, what a slot holds), how they lie in the abstract heap. Own work. -/
namespace VS
open PySem PySem.Spec PyProof.Rows
open L2 (V Hp HO upd SqL SqT Rd)
/-- shared data; a list is stable (true), or was handed in and may be changed again behind the call (false) -/
inductive D where
  | non | bl (b : Bool) | int (i : Int) | str (s : Str) | ty (n : String) | fn (x : Str)
  | tup (ds : List D)
  | lst (st : Bool) (ds : List D)
  | dct (ks : List L2.Key) (ds : List D)
/-- what one owner holds: shared data; a list of shared data that it may change; a tuple, an object, a list of such -/
inductive Sl where
  | no
  | v (d : D)
  | l (ds : List D)
  | t (ss : List Sl)
  | o (cn : Str) (ns : List Str) (ss : List Sl)
  | ll (ss : List Sl)
mutual
/-- may be handed back -/
def retOk : D → Bool
  | .tup ds => retOks ds
  | .lst st ds => st && retOks ds
  | .dct _ ds => retOks ds
  | _ => true
def retOks : List D → Bool
  | [] => true
  | d :: ds => retOk d && retOks ds
end
mutual
def retSl : Sl → Bool
  | .no => false
  | .v d => retOk d
  | .l ds => retOks ds
  | .t ss => retSls ss
  | .o _ _ ss => retSls ss
  | .ll ss => retSls ss
def retSls : List Sl → Bool
  | [] => true
  | s :: ss => retSl s && retSls ss
end
/-! owned no more -/
mutual
def frSl : Sl → Option D
  | .no => none
  | .v d => some d
  | .l ds => some (.lst true ds)
  | .t ss => (frSls ss).map .tup
  | .o _ _ _ => none
  | .ll ss => (frSls ss).map (.lst true)
def frSls : List Sl → Option (List D)
  | [] => some []
  | s :: ss => (frSl s).bind fun d => (frSls ss).map (d :: ·)
end
structure Ge where
  K : PySem.W.Frag
  mg : Str → Option Value
/-- a list of the written part -/
def KL (K : PySem.W.Frag) (a : Addr) (xs : List V) : Prop :=
  ∃ (o : Obj) (its : Array Value) (n : Nat), K.lookup a = some o ∧ o.cls = .type "list" ∧ o.dict = none ∧ o.data = .seq its n ∧ its.size ≤ sizeLine ∧ L2.Vals xs its.toList
/-- a list that nobody changes: tracked (P: what is asked of its address), known, or written -/
def LT (K : PySem.W.Frag) (P : Addr → Prop) (H : Hp) (a : Addr) (vs : List V) : Prop :=
  (H a = some (.lst vs) ∧ P a) ∨ (∃ o, H a = some (.frz o (.lst vs))) ∨ KL K a vs
theorem LT.sq {K : PySem.W.Frag} {P : Addr → Prop} {H : Hp} {a : Addr} {vs : List V} (h : LT K P H a vs) : SqL K H a vs := by
  rcases h with ⟨h, _⟩ | h | h
  · exact .inl (.inl h)
  · exact .inl (.inr h)
  · exact .inr h
theorem LT.imp {K : PySem.W.Frag} {P P' : Addr → Prop} {H : Hp} {a : Addr} {vs : List V} (hp : ∀ a, H a ≠ none → P a → P' a) (h : LT K P H a vs) : LT K P' H a vs := by
  rcases h with ⟨h, p⟩ | h | h
  · exact .inl ⟨h, hp a (by rw [h]; simp) p⟩
  · exact .inr (.inl h)
  · exact .inr (.inr h)
mutual
/-- v stands for d over H; M: the addresses that are owned here, Z: those of the callers -/
inductive Rep (g : Ge) (Z : Addr → Prop) (M : Addr → Prop) (H : Hp) : V → D → Prop
  | non : Rep g Z M H .non .non
  | bl (b : Bool) : Rep g Z M H (.bl b) (.bl b)
  | int (i : Int) : Rep g Z M H (.int i) (.int i)
  | str (s : Str) : Rep g Z M H (.str s) (.str s)
  | ty (n : String) : Rep g Z M H (.ty n) (.ty n)
  | fn {x : Str} {a : Addr} : g.mg x = some (.ref a) → Rep g Z M H (.ref a) (.fn x)
  | tup {a : Addr} {vs : List V} {ds : List D} : SqT g.K H a vs → Reps g Z M H vs ds → Rep g Z M H (.ref a) (.tup ds)
  | lst {st : Bool} {a : Addr} {vs : List V} {ds : List D} : LT g.K (fun a => ¬ M a ∧ (st = true → ¬ Z a)) H a vs → Reps g Z M H vs ds → Rep g Z M H (.ref a) (.lst st ds)
  | dct {a : Addr} {kvs : List (L2.Key × V)} {ks : List L2.Key} {vs : List V} {ds : List D} : H a = some (.dK kvs) → kvs.map (·.1) = ks → kvs.map (·.2) = vs → Reps g Z M H vs ds → Rep g Z M H (.ref a) (.dct ks ds)
inductive Reps (g : Ge) (Z : Addr → Prop) (M : Addr → Prop) (H : Hp) : List V → List D → Prop
  | nil : Reps g Z M H [] []
  | cons {v : V} {d : D} {vs : List V} {ds : List D} : Rep g Z M H v d → Reps g Z M H vs ds → Reps g Z M H (v :: vs) (d :: ds)
end
mutual
/-- .. for what is owned; as: the addresses that it owns -/
inductive RepO (g : Ge) (Z : Addr → Prop) (M : Addr → Prop) (H : Hp) : V → Sl → List Addr → Prop
  | v {v : V} {d : D} : Rep g Z M H v d → RepO g Z M H v (.v d) []
  | l {a : Addr} {vs : List V} {ds : List D} : H a = some (.lst vs) → Reps g Z M H vs ds → RepO g Z M H (.ref a) (.l ds) [a]
  | t {a : Addr} {vs : List V} {ss : List Sl} {as : List Addr} : SqT g.K H a vs → RepOs g Z M H vs ss as → RepO g Z M H (.ref a) (.t ss) as
  | o {a C dx : Addr} {cn : Str} {fs : List (Str × V)} {ns : List Str} {vs : List V} {ss : List Sl} {as : List Addr} : H a = some (.ins C dx fs) → g.mg cn = some (.ref C) → fs.map (·.1) = ns → fs.map (·.2) = vs → RepOs g Z M H vs ss as → RepO g Z M H (.ref a) (.o cn ns ss) (a :: as)
  | ll {a : Addr} {vs : List V} {ss : List Sl} {as : List Addr} : H a = some (.lst vs) → RepOs g Z M H vs ss as → RepO g Z M H (.ref a) (.ll ss) (a :: as)
inductive RepOs (g : Ge) (Z : Addr → Prop) (M : Addr → Prop) (H : Hp) : List V → List Sl → List Addr → Prop
  | nil : RepOs g Z M H [] [] []
  | cons {v : V} {s : Sl} {as : List Addr} {vs : List V} {ss : List Sl} {bs : List Addr} : RepO g Z M H v s as → RepOs g Z M H vs ss bs → RepOs g Z M H (v :: vs) (s :: ss) (as ++ bs)
end
/-- what is owned is a list or an instance -/
def Typed (H : Hp) (a : Addr) : Prop := (∃ vs, H a = some (.lst vs)) ∨ ∃ C dx fs, H a = some (.ins C dx fs)
theorem Typed.ne {H : Hp} {a : Addr} (t : Typed H a) : H a ≠ none := by
  rcases t with ⟨_, e⟩ | ⟨_, _, _, e⟩ <;> (rw [e]; simp)
section
variable {g : Ge} {Z : Addr → Prop} {M M' : Addr → Prop} {H H' : Hp}
mutual
theorem RepO.typed : ∀ {v : V} {s : Sl} {as : List Addr}, RepO g Z M H v s as → ∀ a ∈ as, Typed H a
  | _, _, _, .v _, _, h => absurd h (by simp)
  | _, _, _, .l e _, a, h => by
    rcases List.mem_cons.mp h with rfl | h
    · exact .inl ⟨_, e⟩
    · exact absurd h (by simp)
  | _, _, _, .t _ r, a, h => r.typed a h
  | _, _, _, .o e _ _ _ r, a, h => by
    rcases List.mem_cons.mp h with rfl | h
    · exact .inr ⟨_, _, _, e⟩
    · exact r.typed a h
  | _, _, _, .ll e r, a, h => by
    rcases List.mem_cons.mp h with rfl | h
    · exact .inl ⟨_, e⟩
    · exact r.typed a h
theorem RepOs.typed : ∀ {vs : List V} {ss : List Sl} {as : List Addr}, RepOs g Z M H vs ss as → ∀ a ∈ as, Typed H a
  | _, _, _, .nil, _, h => absurd h (by simp)
  | _, _, _, .cons r rs, a, h => by
    rcases List.mem_append.mp h with h | h
    · exact r.typed a h
    · exact rs.typed a h
end
theorem Typed.notT {a : Addr} {vs : List V} (t : Typed H a) (h : H a = some (.tup vs)) : False := by
  rcases t with ⟨_, e⟩ | ⟨_, _, _, e⟩ <;> (rw [h] at e; cases e)
theorem Typed.notF {a : Addr} {o : Obj} {u : HO} (t : Typed H a) (h : H a = some (.frz o u)) : False := by
  rcases t with ⟨_, e⟩ | ⟨_, _, _, e⟩ <;> (rw [h] at e; cases e)
theorem Typed.notD {a : Addr} {kvs : List (L2.Key × V)} (t : Typed H a) (h : H a = some (.dK kvs)) : False := by
  rcases t with ⟨_, e⟩ | ⟨_, _, _, e⟩ <;> (rw [h] at e; cases e)
/-- from H, M to H', M': but at ch all stands -/
structure Moved (ch M M' : Addr → Prop) (H H' : Hp) : Prop where
  keep : ∀ b o, H b = some o → ¬ ch b → H' b = some o
  ty : ∀ a, ch a → Typed H a
  sub : ∀ a, ch a → M a
  new : ∀ a, M' a → M a ∨ H a = none
theorem Moved.refl : Moved (fun _ => False) M M H H := ⟨fun _ _ h _ => h, fun _ h => h.elim, fun _ h => h.elim, fun _ h => .inl h⟩
variable {ch : Addr → Prop}
theorem Moved.tup (m : Moved ch M M' H H') {K : PySem.W.Frag} {a : Addr} {vs : List V} (h : SqT K H a vs) : SqT K H' a vs := by
  rcases h with (h | ⟨o, h⟩) | h
  · exact .inl (.inl (m.keep _ _ h fun z => (m.ty _ z).notT h))
  · exact .inl (.inr ⟨o, m.keep _ _ h fun z => (m.ty _ z).notF h⟩)
  · exact .inr h
theorem Moved.lt (m : Moved ch M M' H H') {K : PySem.W.Frag} {P P' : Addr → Prop} (hp : ∀ a, P a → ¬ M a ∧ (¬ M' a → P' a)) {a : Addr} {vs : List V} (h : LT K P H a vs) : LT K P' H' a vs := by
  rcases h with ⟨h, p⟩ | ⟨o, h⟩ | h
  · obtain ⟨n, q⟩ := hp a p
    refine .inl ⟨m.keep _ _ h fun z => n (m.sub _ z), q fun z => ?_⟩
    rcases m.new a z with z | z
    · exact n z
    · rw [h] at z; cases z
  · exact .inr (.inl ⟨o, m.keep _ _ h fun z => (m.ty _ z).notF h⟩)
  · exact .inr (.inr h)
mutual
theorem Rep.moved (m : Moved ch M M' H H') : ∀ {v : V} {d : D}, Rep g Z M H v d → Rep g Z M' H' v d
  | _, _, .non => .non
  | _, _, .bl b => .bl b
  | _, _, .int i => .int i
  | _, _, .str s => .str s
  | _, _, .ty n => .ty n
  | _, _, .fn h => .fn h
  | _, _, .tup h r => .tup (m.tup h) (r.moved m)
  | _, .lst st _, .lst l r => .lst (m.lt (P := fun a => ¬ M a ∧ (st = true → ¬ Z a)) (P' := fun a => ¬ M' a ∧ (st = true → ¬ Z a)) (fun a p => ⟨p.1, fun z => ⟨z, p.2⟩⟩) l) (r.moved m)
  | _, _, .dct e n w r => .dct (m.keep _ _ e fun z => (m.ty _ z).notD e) n w (r.moved m)
theorem Reps.moved (m : Moved ch M M' H H') : ∀ {vs : List V} {ds : List D}, Reps g Z M H vs ds → Reps g Z M' H' vs ds
  | _, _, .nil => .nil
  | _, _, .cons r rs => .cons (r.moved m) (rs.moved m)
end
mutual
theorem RepO.moved (m : Moved ch M M' H H') : ∀ {v : V} {s : Sl} {as : List Addr}, RepO g Z M H v s as → (∀ a ∈ as, ¬ ch a) → RepO g Z M' H' v s as
  | _, _, _, .v r, _ => .v (r.moved m)
  | _, _, _, .l e r, hc => .l (m.keep _ _ e (hc _ (by simp))) (r.moved m)
  | _, _, _, .t h r, hc => .t (m.tup h) (r.moved m hc)
  | _, _, _, .o e h n w r, hc => .o (m.keep _ _ e (hc _ List.mem_cons_self)) h n w (r.moved m fun a h => hc a (List.mem_cons_of_mem _ h))
  | _, _, _, .ll e r, hc => .ll (m.keep _ _ e (hc _ List.mem_cons_self)) (r.moved m fun a h => hc a (List.mem_cons_of_mem _ h))
theorem RepOs.moved (m : Moved ch M M' H H') : ∀ {vs : List V} {ss : List Sl} {as : List Addr}, RepOs g Z M H vs ss as → (∀ a ∈ as, ¬ ch a) → RepOs g Z M' H' vs ss as
  | _, _, _, .nil, _ => .nil
  | _, _, _, .cons r rs, hc => .cons (r.moved m fun a h => hc a (List.mem_append_left _ h)) (rs.moved m fun a h => hc a (List.mem_append_right _ h))
end
/-- only new objects -/
def Ext (H H' : Hp) : Prop := ∀ b o, H b = some o → H' b = some o
theorem Ext.refl (H : Hp) : Ext H H := fun _ _ h => h
theorem Ext.trans {H1 : Hp} (a : Ext H H1) (b : Ext H1 H') : Ext H H' := fun c o h => b c o (a c o h)
theorem Ext.new {p : Addr} {o : HO} (h : H p = none) : Ext H (upd H p o) := fun a u e => by
  rw [L2.upd_ne (L2.ne_of_none e h)]; exact e
theorem Ext.free (x : Ext H H') {p : Addr} (h : H' p = none) : H p = none := by
  cases e : H p with
  | none => rfl
  | some o => rw [x p o e] at h; cases h
theorem Ext.tup (x : Ext H H') {K : PySem.W.Frag} {a : Addr} {vs : List V} (h : SqT K H a vs) : SqT K H' a vs := by
  rcases h with (h | ⟨o, h⟩) | h
  · exact .inl (.inl (x _ _ h))
  · exact .inl (.inr ⟨o, x _ _ h⟩)
  · exact .inr h
theorem Ext.lst (x : Ext H H') {K : PySem.W.Frag} {a : Addr} {vs : List V} (h : SqL K H a vs) : SqL K H' a vs := by
  rcases h with (h | ⟨o, h⟩) | h
  · exact .inl (.inl (x _ _ h))
  · exact .inl (.inr ⟨o, x _ _ h⟩)
  · exact .inr h
theorem Ext.mv (x : Ext H H') : Moved (fun _ => False) M M H H' := ⟨fun b o e _ => x b o e, fun _ h => h.elim, fun _ h => h.elim, fun _ h => .inl h⟩
theorem Rep.ext (x : Ext H H') {v : V} {d : D} (r : Rep g Z M H v d) : Rep g Z M H' v d := r.moved x.mv
theorem Reps.ext (x : Ext H H') {vs : List V} {ds : List D} (r : Reps g Z M H vs ds) : Reps g Z M H' vs ds := r.moved x.mv
theorem RepO.ext (x : Ext H H') {v : V} {s : Sl} {as : List Addr} (r : RepO g Z M H v s as) : RepO g Z M H' v s as := r.moved x.mv (fun _ _ z => z)
theorem RepOs.ext (x : Ext H H') {vs : List V} {ss : List Sl} {as : List Addr} (r : RepOs g Z M H vs ss as) : RepOs g Z M H' vs ss as := r.moved x.mv (fun _ _ z => z)
/-! other owners: what is asked of a stable list's address stays true -/
mutual
theorem Rep.re {Z' : Addr → Prop} (hM : ∀ a, H a ≠ none → ¬ M a → ¬ M' a) (hZ : ∀ a, H a ≠ none → ¬ M a → ¬ Z a → ¬ Z' a) : ∀ {v : V} {d : D}, Rep g Z M H v d → Rep g Z' M' H v d
  | _, _, .non => .non
  | _, _, .bl b => .bl b
  | _, _, .int i => .int i
  | _, _, .str s => .str s
  | _, _, .ty n => .ty n
  | _, _, .fn h => .fn h
  | _, _, .tup h r => .tup h (r.re hM hZ)
  | _, .lst st _, .lst l r => .lst (LT.imp (P := fun a => ¬ M a ∧ (st = true → ¬ Z a)) (fun a e p => ⟨hM a e p.1, fun z => hZ a e p.1 (p.2 z)⟩) l) (r.re hM hZ)
  | _, _, .dct e n w r => .dct e n w (r.re hM hZ)
theorem Reps.re {Z' : Addr → Prop} (hM : ∀ a, H a ≠ none → ¬ M a → ¬ M' a) (hZ : ∀ a, H a ≠ none → ¬ M a → ¬ Z a → ¬ Z' a) : ∀ {vs : List V} {ds : List D}, Reps g Z M H vs ds → Reps g Z' M' H vs ds
  | _, _, .nil => .nil
  | _, _, .cons r rs => .cons (r.re hM hZ) (rs.re hM hZ)
end
mutual
theorem RepO.re {Z' : Addr → Prop} (hM : ∀ a, H a ≠ none → ¬ M a → ¬ M' a) (hZ : ∀ a, H a ≠ none → ¬ M a → ¬ Z a → ¬ Z' a) : ∀ {v : V} {s : Sl} {as : List Addr}, RepO g Z M H v s as → RepO g Z' M' H v s as
  | _, _, _, .v r => .v (r.re hM hZ)
  | _, _, _, .l e r => .l e (r.re hM hZ)
  | _, _, _, .t h r => .t h (r.re hM hZ)
  | _, _, _, .o e h n w r => .o e h n w (r.re hM hZ)
  | _, _, _, .ll e r => .ll e (r.re hM hZ)
theorem RepOs.re {Z' : Addr → Prop} (hM : ∀ a, H a ≠ none → ¬ M a → ¬ M' a) (hZ : ∀ a, H a ≠ none → ¬ M a → ¬ Z a → ¬ Z' a) : ∀ {vs : List V} {ss : List Sl} {as : List Addr}, RepOs g Z M H vs ss as → RepOs g Z' M' H vs ss as
  | _, _, _, .nil => .nil
  | _, _, _, .cons r rs => .cons (r.re hM hZ) (rs.re hM hZ)
end
mutual
/-- what may be handed back: M' may also own what is not there yet, Z' what the callers own -/
theorem Rep.back {Z' : Addr → Prop} (hM : ∀ a, H a ≠ none → ¬ M a → ¬ Z a → ¬ M' a) (hZ : ∀ a, H a ≠ none → ¬ M a → ¬ Z a → ¬ Z' a) : ∀ {v : V} {d : D}, Rep g Z M H v d → retOk d = true → Rep g Z' M' H v d
  | _, _, .non, _ => .non
  | _, _, .bl b, _ => .bl b
  | _, _, .int i, _ => .int i
  | _, _, .str s, _ => .str s
  | _, _, .ty n, _ => .ty n
  | _, _, .fn h, _ => .fn h
  | _, _, .tup h r, k => .tup h (r.back hM hZ (by simpa [retOk] using k))
  | _, .lst st ds, .lst l r, k => by
    have k' : st = true ∧ retOks ds = true := by simpa [retOk] using k
    exact .lst (LT.imp (P := fun a => ¬ M a ∧ (st = true → ¬ Z a)) (fun a e p => ⟨hM a e p.1 (p.2 k'.1), fun z => hZ a e p.1 (p.2 z)⟩) l) (r.back hM hZ k'.2)
  | _, _, .dct e n w r, k => .dct e n w (r.back hM hZ (by simpa [retOk] using k))
theorem Reps.back {Z' : Addr → Prop} (hM : ∀ a, H a ≠ none → ¬ M a → ¬ Z a → ¬ M' a) (hZ : ∀ a, H a ≠ none → ¬ M a → ¬ Z a → ¬ Z' a) : ∀ {vs : List V} {ds : List D}, Reps g Z M H vs ds → retOks ds = true → Reps g Z' M' H vs ds
  | _, _, .nil, _ => .nil
  | _, d :: ds, .cons r rs, k => by
    have k' : retOk d = true ∧ retOks ds = true := by simpa [retOks] using k
    exact .cons (r.back hM hZ k'.1) (rs.back hM hZ k'.2)
end
mutual
theorem RepO.back {Z' : Addr → Prop} (hM : ∀ a, H a ≠ none → ¬ M a → ¬ Z a → ¬ M' a) (hZ : ∀ a, H a ≠ none → ¬ M a → ¬ Z a → ¬ Z' a) : ∀ {v : V} {s : Sl} {as : List Addr}, RepO g Z M H v s as → retSl s = true → RepO g Z' M' H v s as
  | _, _, _, .v r, k => .v (r.back hM hZ (by simpa [retSl] using k))
  | _, _, _, .l e r, k => .l e (r.back hM hZ (by simpa [retSl] using k))
  | _, _, _, .t h r, k => .t h (r.back hM hZ (by simpa [retSl] using k))
  | _, _, _, .o e h n w r, k => .o e h n w (r.back hM hZ (by simpa [retSl] using k))
  | _, _, _, .ll e r, k => .ll e (r.back hM hZ (by simpa [retSl] using k))
theorem RepOs.back {Z' : Addr → Prop} (hM : ∀ a, H a ≠ none → ¬ M a → ¬ Z a → ¬ M' a) (hZ : ∀ a, H a ≠ none → ¬ M a → ¬ Z a → ¬ Z' a) : ∀ {vs : List V} {ss : List Sl} {as : List Addr}, RepOs g Z M H vs ss as → retSls ss = true → RepOs g Z' M' H vs ss as
  | _, _, _, .nil, _ => .nil
  | _, s :: ss, _, .cons r rs, k => by
    have k' : retSl s = true ∧ retSls ss = true := by simpa [retSls] using k
    exact .cons (r.back hM hZ k'.1) (rs.back hM hZ k'.2)
end
mutual
theorem RepO.freeze : ∀ {v : V} {s : Sl} {as : List Addr} {d : D}, RepO g Z M H v s as → frSl s = some d → (∀ a ∈ as, ¬ M a ∧ ¬ Z a) → Rep g Z M H v d
  | _, _, _, _, .v r, e, _ => by
    rw [frSl] at e; cases e; exact r
  | _, _, _, _, .l h r, e, hs => by
    rw [frSl] at e; cases e; exact .lst (.inl ⟨h, (hs _ (by simp)).1, fun _ => (hs _ (by simp)).2⟩) r
  | _, .t ss, _, _, .t h r, e, hs => by
    rw [frSl] at e
    cases q : frSls ss with
    | none => rw [q] at e; cases e
    | some ds => rw [q] at e; cases e; exact .tup h (r.freeze q hs)
  | _, _, _, _, .o _ _ _ _ _, e, _ => by rw [frSl] at e; cases e
  | _, .ll ss, _, _, .ll h r, e, hs => by
    rw [frSl] at e
    cases q : frSls ss with
    | none => rw [q] at e; cases e
    | some ds => rw [q] at e; cases e; exact .lst (.inl ⟨h, (hs _ List.mem_cons_self).1, fun _ => (hs _ List.mem_cons_self).2⟩) (r.freeze q fun a h => hs a (List.mem_cons_of_mem _ h))
theorem RepOs.freeze : ∀ {vs : List V} {ss : List Sl} {as : List Addr} {ds : List D}, RepOs g Z M H vs ss as → frSls ss = some ds → (∀ a ∈ as, ¬ M a ∧ ¬ Z a) → Reps g Z M H vs ds
  | _, _, _, _, .nil, e, _ => by rw [frSls] at e; cases e; exact .nil
  | _, s :: ss, _, _, .cons r rs, e, hs => by
    rw [frSls] at e
    cases q : frSl s with
    | none => rw [q] at e; cases e
    | some d =>
      cases q2 : frSls ss with
      | none => rw [q, q2] at e; cases e
      | some ds =>
        rw [q, q2] at e; cases e
        exact .cons (r.freeze q fun a h => hs a (List.mem_append_left _ h)) (rs.freeze q2 fun a h => hs a (List.mem_append_right _ h))
end
theorem Reps.length : ∀ {vs : List V} {ds : List D}, Reps g Z M H vs ds → vs.length = ds.length
  | _, _, .nil => rfl
  | _, _, .cons _ rs => by rw [List.length_cons, List.length_cons, rs.length]
theorem Reps.get : ∀ {vs : List V} {ds : List D} {i : Nat} {d : D}, Reps g Z M H vs ds → ds[i]? = some d → ∃ v, vs[i]? = some v ∧ Rep g Z M H v d
  | _, _, _, _, .nil, e => by simp at e
  | _, _, 0, _, .cons r _, e => by simp at e; subst e; exact ⟨_, rfl, r⟩
  | _, _, i + 1, d, .cons _ rs, e => by
    obtain ⟨v, h1, h2⟩ := rs.get (i := i) (d := d) (by simpa using e)
    exact ⟨v, by simpa using h1, h2⟩
theorem Reps.append : ∀ {vs : List V} {ds : List D} {vs' : List V} {ds' : List D}, Reps g Z M H vs ds → Reps g Z M H vs' ds' → Reps g Z M H (vs ++ vs') (ds ++ ds')
  | _, _, _, _, .nil, q => q
  | _, _, _, _, .cons r rs, q => .cons r (rs.append q)
theorem Reps.take : ∀ (n : Nat) {vs : List V} {ds : List D}, Reps g Z M H vs ds → Reps g Z M H (vs.take n) (ds.take n)
  | 0, _, _, _ => by rw [List.take_zero, List.take_zero]; exact .nil
  | _ + 1, _, _, .nil => .nil
  | n + 1, _, _, .cons r rs => .cons r (rs.take n)
theorem Reps.drop : ∀ (n : Nat) {vs : List V} {ds : List D}, Reps g Z M H vs ds → Reps g Z M H (vs.drop n) (ds.drop n)
  | 0, _, _, r => r
  | _ + 1, _, _, .nil => .nil
  | n + 1, _, _, .cons _ rs => rs.drop n
theorem Reps.set {v : V} {d : D} (r : Rep g Z M H v d) : ∀ (i : Nat) {vs : List V} {ds : List D}, Reps g Z M H vs ds → Reps g Z M H (vs.set i v) (ds.set i d)
  | _, _, _, .nil => .nil
  | 0, _, _, .cons _ rs => .cons r rs
  | i + 1, _, _, .cons q rs => .cons q (Reps.set r i rs)
end
end VS
set_option Elab.async false
set_option linter.all false
set_option maxRecDepth 100000
set_option maxHeartbeats 4000000
/-! VS2: states, what an expression does to data (EJ). Own work. -/
namespace VS
open PySem PySem.Spec PyProof.Rows
open L2 (V Hp HO upd SqL SqT Rd Cx TE TT TA TS VK XK WX PE PT PA PS PSs)
/-- what an expression yields: shared data; a look at an owned list; something new, owned by nobody yet -/
inductive EV where
  | v (d : D)
  | b (ds : List D)
  | m (s : Sl)
  | p (i : Nat)
/-- an exception: its class's name, its fields -/
structure Exc where
  cn : Str
  ns : List Str
  ds : List D
abbrev Rho := List Sl
inductive RepS (g : Ge) (Z : Addr → Prop) (M : Addr → Prop) (H : Hp) : L2.St → Rho → List Addr → Prop
  | nil : RepS g Z M H [] [] []
  | no {x : Option V} {σ : L2.St} {ρ : Rho} {as : List Addr} : RepS g Z M H σ ρ as → RepS g Z M H (x :: σ) (.no :: ρ) as
  | yes {v : V} {s : Sl} {σ : L2.St} {ρ : Rho} {as bs : List Addr} : RepO g Z M H v s as → RepS g Z M H σ ρ bs → RepS g Z M H (some v :: σ) (s :: ρ) (as ++ bs)
/-- a def's run: K and the globals; Z: what the callers own; the heap at its entry; what it may change of what it was handed -/
structure Fr where
  g : Ge
  Z : Addr → Prop
  H0 : Hp
  io : List Addr
  zd : ∀ a, Z a → H0 a ≠ none
  zi : ∀ a ∈ io, ¬ Z a
  /-- the slots of what it was handed to change; they keep what they hold -/
  mask : List Bool
  s0 : L2.St
/-- the slots hold ρ; M: all that is owned, T: that which is owned by values on their way -/
structure SR (c : Fr) (M : Addr → Prop) (T : List Addr) (σ : L2.St) (H : Hp) (ρ : Rho) : Prop where
  slots : ∃ Ms, RepS c.g c.Z M H σ ρ Ms ∧ (Ms ++ T).Nodup ∧ ∀ a ∈ Ms ++ T, M a
  ty : ∀ a, M a → Typed H a
  src : ∀ a, M a → a ∈ c.io ∨ c.H0 a = none
  keep : ∀ b o, c.H0 b = some o → b ∉ c.io → H b = some o
  pin : ∀ j : Nat, c.mask[j]? = some true → σ[j]? = c.s0[j]?
  ln : σ.length = c.s0.length
structure Post (c : Fr) (p : Bool) (σ : L2.St) (M : Addr → Prop) (T : List Addr) (H : Hp) (M' : Addr → Prop) (T' : List Addr) (H' : Hp) (ρ' : Rho) : Prop where
  sr : SR c M' T' σ H' ρ'
  keep : ∀ b o, H b = some o → (M b → b ∈ T) → H' b = some o
  new : ∀ a, M' a → M a ∨ H a = none
  pu : p = true → Ext H H'
/-- v stands for what was yielded; as: what it owns -/
inductive VRg (g : Ge) (Z : Addr → Prop) (M : Addr → Prop) (H : Hp) : V → EV → List Addr → Prop
  | v {v : V} {d : D} : Rep g Z M H v d → VRg g Z M H v (.v d) []
  | b {a : Addr} {vs : List V} {ds : List D} : H a = some (.lst vs) → Reps g Z M H vs ds → VRg g Z M H (.ref a) (.b ds) []
  | m {v : V} {s : Sl} {as : List Addr} : RepO g Z M H v s as → VRg g Z M H v (.m s) as
abbrev VR (c : Fr) := VRg c.g c.Z
inductive XRg (g : Ge) (Z : Addr → Prop) (M : Addr → Prop) (H : Hp) : Value → Option Addr → Exc → Prop
  | no {C : Addr} {cn : Str} : g.mg cn = some (.ref C) → XRg g Z M H (.ref C) none ⟨cn, [], []⟩
  | yes {C d : Addr} {cn : Str} {fs : List (Str × V)} {ns : List Str} {vs : List V} {ds : List D} : g.mg cn = some (.ref C) → H d = some (.xd fs) → fs.map (·.1) = ns → fs.map (·.2) = vs → Reps g Z M H vs ds → XRg g Z M H (.ref C) (some d) ⟨cn, ns, ds⟩
abbrev XRep (c : Fr) := XRg c.g c.Z
abbrev ES := Rho → (EV → Rho → Prop) → (Exc → Rho → Prop) → Prop
section
variable {c : Fr} {p p1 p2 : Bool} {σ : L2.St} {M M1 M2 M' : Addr → Prop} {T T1 T2 T' : List Addr} {H H1 H2 H' : Hp} {ρ ρ1 ρ2 ρ' : Rho} {W : WX}
theorem SR.drop {as : List Addr} (s : SR c M (as ++ T) σ H ρ) : SR c M T σ H ρ := by
  obtain ⟨Ms, r, nd, al⟩ := s.slots
  refine ⟨⟨Ms, r, ?_, fun a h => al a ?_⟩, s.ty, s.src, s.keep, s.pin, s.ln⟩
  · exact nd.sublist (List.Sublist.append (List.Sublist.refl _) (List.sublist_append_right _ _))
  · rcases List.mem_append.mp h with h | h
    · exact List.mem_append_left _ h
    · exact List.mem_append_right _ (List.mem_append_right _ h)
theorem Post.drop {as : List Addr} (q : Post c p σ M T H M' (as ++ T') H' ρ') : Post c p σ M T H M' T' H' ρ' := ⟨q.sr.drop, q.keep, q.new, q.pu⟩
theorem Post.refl (s : SR c M T σ H ρ) : Post c p σ M T H M T H ρ := ⟨s, fun _ _ h _ => h, fun _ h => .inl h, fun _ => Ext.refl _⟩
theorem Post.trans {σ0 : L2.St} (a : Post c p1 σ0 M T H M1 T1 H1 ρ1) (b : Post c p2 σ M1 T1 H1 M2 T2 H2 ρ2) (ht : ∀ x ∈ T, x ∈ T1) : Post c (p1 && p2) σ M T H M2 T2 H2 ρ2 := by
  have k : ∀ b o, H b = some o → (M b → b ∈ T) → (M1 b → b ∈ T1) := fun x o e h m => by
    rcases a.new x m with z | z
    · exact ht x (h z)
    · rw [e] at z; cases z
  refine ⟨b.sr, fun x o e h => b.keep x o (a.keep x o e h) (k x o e h), fun x m => ?_, fun e => ?_⟩
  · rcases b.new x m with z | z
    · exact a.new x z
    · by_cases hm : M x
      · exact .inl hm
      · refine .inr ?_
        cases q : H x with
        | none => rfl
        | some o => rw [a.keep x o q fun y => absurd y hm] at z; cases z
  · rw [Bool.and_eq_true] at e
    exact (a.pu e.1).trans (b.pu e.2)
theorem Post.weak (a : Post c p σ M T H M' T' H' ρ') : Post c false σ M T H M' T' H' ρ' := ⟨a.sr, a.keep, a.new, fun e => nomatch e⟩
theorem Post.mv {σ' : L2.St} (s : SR c M T σ H ρ) (q : Post c p σ' M T H M' T' H' ρ') : Moved (fun a => M a ∧ a ∉ T) M M' H H' :=
  ⟨fun b o e h => q.keep b o e fun m => Classical.byContradiction fun z => h ⟨m, z⟩, fun a h => s.ty a h.1, fun a h => h.1, q.new⟩
/-- what was yielded before stands: but a look at an owned list only where nothing was changed -/
def okB (p : Bool) : EV → Prop
  | .b _ => p = true
  | _ => True
theorem VR.next {v : V} {x : EV} {as : List Addr} (r : VR c M H v x as) {σ' : L2.St} (s : SR c M T σ H ρ) (q : Post c p σ' M T H M' T' H' ρ') (ht : ∀ a ∈ as, a ∈ T) (ok : okB p x) : VR c M' H' v x as := by
  have m := q.mv s
  cases r with
  | v r => exact .v (r.moved m)
  | b l r => exact .b (q.pu ok _ _ l) (r.moved m)
  | m r => exact .m (r.moved m fun a h z => z.2 (ht a h))
theorem RepS.len {g : Ge} {Z : Addr → Prop} : ∀ {σ : L2.St} {ρ : Rho} {as : List Addr}, RepS g Z M H σ ρ as → σ.length = ρ.length
  | _, _, _, .nil => rfl
  | _, _, _, .no r => by rw [List.length_cons, List.length_cons, r.len]
  | _, _, _, .yes _ r => by rw [List.length_cons, List.length_cons, r.len]
theorem RepS.moved {g : Ge} {Z : Addr → Prop} {ch : Addr → Prop} (m : Moved ch M M' H H') : ∀ {σ : L2.St} {ρ : Rho} {as : List Addr}, RepS g Z M H σ ρ as → (∀ a ∈ as, ¬ ch a) → RepS g Z M' H' σ ρ as
  | _, _, _, .nil, _ => .nil
  | _, _, _, .no r, h => .no (r.moved m h)
  | _, _, _, .yes q r, h => .yes (q.moved m fun a z => h a (List.mem_append_left _ z)) (r.moved m fun a z => h a (List.mem_append_right _ z))
/-- a new object -/
theorem SR.ext (s : SR c M T σ H ρ) (x : Ext H H') : SR c M T σ H' ρ := by
  obtain ⟨Ms, r, nd, al⟩ := s.slots
  refine ⟨⟨Ms, r.moved x.mv (fun _ _ z => z), nd, al⟩, fun a h => ?_, s.src, fun b o e hb => x b o (s.keep b o e hb), s.pin, s.ln⟩
  rcases s.ty a h with ⟨_, e⟩ | ⟨_, _, _, e⟩
  · exact .inl ⟨_, x _ _ e⟩
  · exact .inr ⟨_, _, _, x _ _ e⟩
theorem Post.ext (s : Post c p σ M T H M' T' H' ρ') (x : Ext H' H2) : Post c p σ M T H M' T' H2 ρ' := ⟨s.sr.ext x, fun b o e h => x b o (s.keep b o e h), s.new, fun e => (s.pu e).trans x⟩
end
/-- what e does: f; p: it changes nothing that was there -/
def rdE (c : Fr) (W : WX) (p : Bool) (f : ES) : TE := fun σ H Q => ∃ ρ M T, SR c M T σ H ρ ∧
  f ρ (fun ev ρ' => ∀ v H' M' as, Post c p σ M T H M' (as ++ T) H' ρ' → VR c M' H' v ev as → Q v H')
    (fun x ρ' => ∀ cls dd H' M', Post c false σ M T H M' T H' ρ' → XRep c M' H' cls dd x → W cls dd σ H')
def Mono (f : ES) : Prop := ∀ ρ K K' E E', (∀ x ρ', K x ρ' → K' x ρ') → (∀ x ρ', E x ρ' → E' x ρ') → f ρ K E → f ρ K' E'
structure EJ (X : Cx) (c : Fr) (W : WX) (p : Bool) (e : Expr) (f : ES) : Prop where
  mono : Mono f
  run : PE X e (rdE c W p f)
theorem PE.imp {X : Cx} {e : Expr} {t t' : TE} (h : PE X e t) (i : ∀ σ H Q, t' σ H Q → t σ H Q) : PE X e t' := ⟨fun pins s σ H Q I q => h.run pins s σ H Q I (i σ H Q q)⟩
/-- two in a row -/
def bin (p2 : Bool) (f g : ES) (R : EV → EV → (EV → Rho → Prop) → (Exc → Rho → Prop) → Rho → Prop) : ES := fun ρ K E => f ρ (fun x ρ1 => g ρ1 (fun y ρ2 => okB p2 x ∧ R x y K E ρ2) E) E
theorem Mono.bin {p2 : Bool} {f g : ES} {R : EV → EV → (EV → Rho → Prop) → (Exc → Rho → Prop) → Rho → Prop} (hf : Mono f) (hg : Mono g) (hR : ∀ x y ρ K K' E E', (∀ x ρ', K x ρ' → K' x ρ') → (∀ x ρ', E x ρ' → E' x ρ') → R x y K E ρ → R x y K' E' ρ) :
    Mono (bin p2 f g R) := fun ρ K K' E E' hk he => hf _ _ _ _ _ (fun x ρ1 h => hg _ _ _ _ _ (fun y ρ2 ⟨o, q⟩ => ⟨o, hR _ _ _ _ _ _ _ hk he q⟩) he h) he
section
variable {X : Cx} {c : Fr} {W : WX} {p p1 p2 : Bool} {a b : Expr} {f g : ES} {R : EV → EV → (EV → Rho → Prop) → (Exc → Rho → Prop) → Rho → Prop} {Tm : V → V → Hp → VK → Prop}
theorem seq2 (hf : Mono f) (hg : Mono g)
    (hR : ∀ σ M T H M2 H2 ρ2 as1 as2 v u x y Q E, Post c (p1 && p2) σ M T H M2 (as2 ++ (as1 ++ T)) H2 ρ2 → VR c M2 H2 v x as1 → VR c M2 H2 u y as2 →
      R x y (fun ev ρ' => ∀ v H' M' as, Post c (p1 && p2) σ M T H M' (as ++ T) H' ρ' → VR c M' H' v ev as → Q v H') E ρ2 → Tm v u H2 Q) :
    ∀ σ H Q, rdE c W (p1 && p2) (bin p2 f g R) σ H Q → rdE c W p1 f σ H (fun v H1 => rdE c W p2 g σ H1 (fun u H2 => Tm v u H2 Q)) := by
  rintro σ H Q ⟨ρ, M, T, s, h⟩
  refine ⟨ρ, M, T, s, hf _ _ _ _ _ (fun x ρ1 h v H1 M1 as1 q1 r1 => ?_) (fun _ _ h => h) h⟩
  have ht : ∀ x ∈ T, x ∈ as1 ++ T := fun x hx => List.mem_append_right _ hx
  have k1 : ∀ y ρ2, (okB p2 x ∧ R x y (fun ev ρ' => ∀ v H' M' as, Post c (p1 && p2) σ M T H M' (as ++ T) H' ρ' → VR c M' H' v ev as → Q v H')
      (fun x ρ' => ∀ cls dd H' M', Post c false σ M T H M' T H' ρ' → XRep c M' H' cls dd x → W cls dd σ H') ρ2) →
      ∀ u H2 M2 as2, Post c p2 σ M1 (as1 ++ T) H1 M2 (as2 ++ (as1 ++ T)) H2 ρ2 → VR c M2 H2 u y as2 → Tm v u H2 Q := fun y ρ2 k u H2 M2 as2 q2 r2 =>
    hR σ M T H M2 H2 ρ2 as1 as2 v u x y Q _ (q1.trans q2 ht) (r1.next q1.sr q2 (fun a ha => List.mem_append_left _ ha) k.1) r2 k.2
  exact ⟨ρ1, M1, as1 ++ T, q1.sr, hg _ _ _ _ _ k1 (fun x ρ2 h cls dd H2 M2 q2 r2 => h cls dd H2 M2 (q1.trans q2 ht).weak.drop r2) h⟩
/-- two operands, then an operation on values -/
theorem ej_bin {e : Expr} (ha : EJ X c W p1 a f) (hb : EJ X c W p2 b g) (ht : PE X a (rdE c W p1 f) → PE X b (rdE c W p2 g) → PE X e (fun σ H Q => rdE c W p1 f σ H (fun v H1 => rdE c W p2 g σ H1 (fun u H2 => Tm v u H2 Q))))
    (hM : ∀ x y ρ K K' E E', (∀ x ρ', K x ρ' → K' x ρ') → (∀ x ρ', E x ρ' → E' x ρ') → R x y K E ρ → R x y K' E' ρ)
    (hR : ∀ σ M T H M2 H2 ρ2 as1 as2 v u x y Q E, Post c (p1 && p2) σ M T H M2 (as2 ++ (as1 ++ T)) H2 ρ2 → VR c M2 H2 v x as1 → VR c M2 H2 u y as2 →
      R x y (fun ev ρ' => ∀ v H' M' as, Post c (p1 && p2) σ M T H M' (as ++ T) H' ρ' → VR c M' H' v ev as → Q v H') E ρ2 → Tm v u H2 Q) :
    EJ X c W (p1 && p2) e (bin p2 f g R) := ⟨Mono.bin ha.mono hb.mono hM, PE.imp (ht ha.run hb.run) (seq2 ha.mono hb.mono hR)⟩
end
/-! ### constants and names -/
def cE (d : D) : ES := fun ρ K _ => K (.v d) ρ
/-- a name that holds shared data -/
def vE (i : Nat) : ES := fun ρ K _ => match ρ[i]? with
  | some (.v d) => K (.v d) ρ
  | _ => False
/-- a look at an owned list -/
def bE (i : Nat) : ES := fun ρ K _ => match ρ[i]? with
  | some (.l ds) => K (.b ds) ρ
  | _ => False
/-- an owned thing that is owned no more: from here on nobody changes it -/
def fE (i : Nat) : ES := fun ρ K _ => match ρ[i]? with
  | some s => (match frSl s with
    | some d => K (.v d) (ρ.set i (.v d))
    | none => False)
  | _ => False
/-- an owned thing handed on: the name is empty from here on -/
def mE (i : Nat) : ES := fun ρ K _ => match ρ[i]? with
  | some .no => False
  | some s => K (.m s) (ρ.set i .no)
  | _ => False
section
variable {X : Cx} {c : Fr} {W : WX} {M M' : Addr → Prop} {T : List Addr} {σ : L2.St} {H H' : Hp} {ρ : Rho}
theorem RepS.get {g : Ge} {Z : Addr → Prop} : ∀ {σ : L2.St} {ρ : Rho} {Ms : List Addr} {i : Nat} {s : Sl}, RepS g Z M H σ ρ Ms → ρ[i]? = some s → s ≠ .no → ∃ v as, σ[i]? = some (some v) ∧ RepO g Z M H v s as ∧ ∀ a ∈ as, a ∈ Ms
  | _, _, _, _, _, .nil, e, _ => by simp at e
  | _, _, _, 0, _, .no _, e, n => by simp at e; exact absurd e.symm n
  | _, _, _, 0, _, .yes q _, e, _ => by simp at e; subst e; exact ⟨_, _, rfl, q, fun a h => List.mem_append_left _ h⟩
  | _, _, _, i + 1, s, .no r, e, n => by
    obtain ⟨v, as, h1, h2, h3⟩ := r.get (i := i) (s := s) (by simpa using e) n
    exact ⟨v, as, by simpa using h1, h2, h3⟩
  | _, _, _, i + 1, s, .yes _ r, e, n => by
    obtain ⟨v, as, h1, h2, h3⟩ := r.get (i := i) (s := s) (by simpa using e) n
    exact ⟨v, as, by simpa using h1, h2, fun a h => List.mem_append_right _ (h3 a h)⟩
theorem Post.same (s : SR c M T σ H ρ) {p : Bool} : Post c p σ M T H M ([] ++ T) H ρ := Post.refl s
theorem ej_int {i : Int} {j pos} : EJ X c W true (.Constant (.int i) j pos) (cE (.int i)) := ⟨fun ρ K K' E E' hk _ h => hk _ _ h, PE.imp L2.pe_int fun σ H Q ⟨ρ, M, T, s, h⟩ => h _ H M [] (Post.same s) (.v (.int i))⟩
theorem ej_bl {b : Bool} {j pos} : EJ X c W true (.Constant (.bool b) j pos) (cE (.bl b)) := ⟨fun ρ K K' E E' hk _ h => hk _ _ h, PE.imp L2.pe_bl fun σ H Q ⟨ρ, M, T, s, h⟩ => h _ H M [] (Post.same s) (.v (.bl b))⟩
theorem ej_non {j pos} : EJ X c W true (.Constant .none j pos) (cE .non) := ⟨fun ρ K K' E E' hk _ h => hk _ _ h, PE.imp L2.pe_non fun σ H Q ⟨ρ, M, T, s, h⟩ => h _ H M [] (Post.same s) (.v .non)⟩
/-- a constant of the module -/
theorem ej_glob {x : Str} {v : V} {d : D} {u : Value} {pos : Pos} (hg : L2.Gl X x) (hm : X.mg x = some u) (r : L2.RelV v u) (hr : ∀ (Z : Addr → Prop) (M : Addr → Prop) (H : Hp), Rep c.g Z M H v d) (hd : (x == ("__debug__" : Str)) = false := by decide) : EJ X c W true (.Name x pos) (cE d) :=
  ⟨fun ρ K K' E E' hk _ h => hk _ _ h, PE.imp (L2.pe_glob hg hm r hd) fun σ H Q ⟨ρ, M, T, s, h⟩ => h v H M [] (Post.same s) (.v (hr _ M H))⟩
theorem SR.read (s : SR c M T σ H ρ) {i : Nat} {x : Sl} (e : ρ[i]? = some x) (n : x ≠ .no) : ∃ v as, σ[i]? = some (some v) ∧ RepO c.g c.Z M H v x as ∧ (∀ a ∈ as, M a ∧ a ∉ T) := by
  obtain ⟨Ms, r, nd, al⟩ := s.slots
  obtain ⟨v, as, h1, h2, h3⟩ := r.get e n
  exact ⟨v, as, h1, h2, fun a h => ⟨al a (List.mem_append_left _ (h3 a h)), fun z => (List.nodup_append.mp nd).2.2 a (h3 a h) a z rfl⟩⟩
theorem ej_v {i : Nat} {e : Expr} (he : PE X e (L2.tVar i)) : EJ X c W true e (vE i) := by
  refine ⟨fun ρ K K' E E' hk _ h => ?_, PE.imp he fun σ H Q ⟨ρ, M, T, s, h⟩ => ?_⟩
  · unfold vE at h ⊢
    split at h
    · exact hk _ _ h
    · exact h
  · unfold vE at h
    split at h
    · rename_i d e
      obtain ⟨v, as, h1, h2, _⟩ := s.read e (by simp)
      cases h2 with
      | v r => exact ⟨v, h1, h v H M [] (Post.same s) (.v r)⟩
    · exact h.elim
/-- a slot gets something else: what it owned is owned by nobody, what comes is owned by it -/
theorem RepS.put {g : Ge} {Z : Addr → Prop} {v : V} {s : Sl} {as : List Addr} (q : RepO g Z M H v s as) : ∀ {σ : L2.St} {ρ : Rho} {Ms : List Addr} {i : Nat}, RepS g Z M H σ ρ Ms → i < ρ.length →
    ∃ Ms', RepS g Z M H (σ.set i (some v)) (ρ.set i s) Ms' ∧ (∀ a ∈ Ms', a ∈ Ms ∨ a ∈ as) ∧ (Ms.Nodup → as.Nodup → (∀ a ∈ as, a ∉ Ms) → Ms'.Nodup)
  | _, _, _, _, .nil, h => absurd h (by simp)
  | _ :: σ, _ :: ρ, Ms, 0, .no r, h => ⟨as ++ Ms, .yes q r, fun a h => (List.mem_append.mp h).symm, fun n1 n2 n3 => List.nodup_append.mpr ⟨n2, n1, fun a ha b hb e => n3 a ha (e ▸ hb)⟩⟩
  | some u :: σ, _ :: ρ, _, 0, .yes (as := bs) (bs := cs) _ r, h => ⟨as ++ cs, .yes q r, fun a h => by
      rcases List.mem_append.mp h with h | h
      · exact .inr h
      · exact .inl (List.mem_append_right _ h), fun n1 n2 n3 => List.nodup_append.mpr ⟨n2, (List.nodup_append.mp n1).2.1, fun a ha b hb e => n3 a ha (e ▸ List.mem_append_right _ hb)⟩⟩
  | _ :: σ, _ :: ρ, Ms, i + 1, .no r, h => by
    obtain ⟨Ms', h1, h2, h3⟩ := r.put q (i := i) (by simpa using h)
    exact ⟨Ms', .no h1, h2, h3⟩
  | some u :: σ, s' :: ρ, _, i + 1, .yes (as := bs) (bs := cs) o r, h => by
    obtain ⟨Ms', h1, h2, h3⟩ := r.put q (i := i) (by simpa using h)
    refine ⟨bs ++ Ms', .yes o h1, fun a h => ?_, fun n1 n2 n3 => ?_⟩
    · rcases List.mem_append.mp h with h | h
      · exact .inl (List.mem_append_left _ h)
      · rcases h2 a h with h | h
        · exact .inl (List.mem_append_right _ h)
        · exact .inr h
    · obtain ⟨m1, m2, m3⟩ := List.nodup_append.mp n1
      refine List.nodup_append.mpr ⟨m1, h3 m2 n2 fun a ha z => n3 a ha (List.mem_append_right _ z), fun a ha b hb e => ?_⟩
      subst e
      rcases h2 a hb with z | z
      · exact m3 a ha a z rfl
      · exact n3 a z (List.mem_append_left _ ha)
/-- a slot is emptied: what it owned -/
theorem RepS.out {g : Ge} {Z : Addr → Prop} : ∀ {σ : L2.St} {ρ : Rho} {Ms : List Addr} {i : Nat} {s : Sl}, RepS g Z M H σ ρ Ms → ρ[i]? = some s → s ≠ .no →
    ∃ v as Ms', σ[i]? = some (some v) ∧ RepO g Z M H v s as ∧ RepS g Z M H σ (ρ.set i .no) Ms' ∧ (∀ a ∈ as, a ∈ Ms) ∧ (∀ a ∈ Ms', a ∈ Ms) ∧ (Ms.Nodup → as.Nodup ∧ Ms'.Nodup ∧ ∀ a ∈ as, a ∉ Ms')
  | _, _, _, _, _, .nil, e, _ => by simp at e
  | _, _, _, 0, _, .no _, e, n => by simp at e; exact absurd e.symm n
  | _, _, _, 0, _, .yes (as := bs) (bs := cs) q r, e, _ => by
    simp at e
    subst e
    exact ⟨_, bs, cs, rfl, q, .no r, fun a h => List.mem_append_left _ h, fun a h => List.mem_append_right _ h, fun n => ⟨(List.nodup_append.mp n).1, (List.nodup_append.mp n).2.1, fun a h z => (List.nodup_append.mp n).2.2 a h a z rfl⟩⟩
  | _, _, _, i + 1, s, .no r, e, n => by
    obtain ⟨v, as, Ms', h1, h2, h3, h4, h5, h6⟩ := r.out (i := i) (s := s) (by simpa using e) n
    exact ⟨v, as, Ms', by simpa using h1, h2, .no h3, h4, h5, h6⟩
  | _, _, _, i + 1, s, .yes (as := bs) (bs := cs) q r, e, n => by
    obtain ⟨v, as, Ms', h1, h2, h3, h4, h5, h6⟩ := r.out (i := i) (s := s) (by simpa using e) n
    refine ⟨v, as, bs ++ Ms', by simpa using h1, h2, .yes q h3, fun a h => List.mem_append_right _ (h4 a h), fun a h => ?_, fun nd => ?_⟩
    · rcases List.mem_append.mp h with h | h
      · exact List.mem_append_left _ h
      · exact List.mem_append_right _ (h5 a h)
    · obtain ⟨m1, m2, m3⟩ := List.nodup_append.mp nd
      obtain ⟨k1, k2, k3⟩ := h6 m2
      refine ⟨k1, List.nodup_append.mpr ⟨m1, k2, fun a ha b hb e => m3 a ha b (h5 b hb) e⟩, fun a ha z => ?_⟩
      rcases List.mem_append.mp z with z | z
      · exact m3 a z a (h4 a ha) rfl
      · exact k3 a ha z
end
end VS
set_option Elab.async false
set_option linter.all false
set_option maxRecDepth 100000
set_option maxHeartbeats 4000000
/-! VS3: names handed on, tests, argument lists, displays, operators. Own work. -/
namespace VS
open PySem PySem.Spec PyProof.Rows
open L2 (V Hp HO upd SqL SqT Rd Cx TE TT TA TS VK XK WX PE PT PA PS PSs)
section
variable {X : Cx} {c : Fr} {W : WX} {M M' : Addr → Prop} {T T' : List Addr} {σ : L2.St} {H H' : Hp} {ρ ρ' : Rho} {p p1 p2 : Bool}
theorem RepS.re {g : Ge} {Z Z' : Addr → Prop} (hM : ∀ a, H a ≠ none → ¬ M a → ¬ M' a) (hZ : ∀ a, H a ≠ none → ¬ M a → ¬ Z a → ¬ Z' a) : ∀ {σ : L2.St} {ρ : Rho} {as : List Addr}, RepS g Z M H σ ρ as → RepS g Z' M' H σ ρ as
  | _, _, _, .nil => .nil
  | _, _, _, .no r => .no (r.re hM hZ)
  | _, _, _, .yes q r => .yes (q.re hM hZ) (r.re hM hZ)
theorem set_get {α : Type} {l : List α} {i : Nat} {x : α} (h : l[i]? = some x) : l.set i x = l := by
  obtain ⟨hi, e⟩ := List.getElem?_eq_some_iff.mp h
  rw [← e]; exact List.set_getElem_self hi
theorem ej_m {i : Nat} {e : Expr} (he : PE X e (L2.tVar i)) : EJ X c W false e (mE i) := by
  refine ⟨fun ρ K K' E E' hk _ h => ?_, PE.imp he fun σ H Q ⟨ρ, M, T, s, h⟩ => ?_⟩
  · unfold mE at h ⊢
    split at h
    · exact h
    · exact hk _ _ h
    · exact h
  · unfold mE at h
    split at h
    · exact h.elim
    · rename_i x hn e
      obtain ⟨Ms, r, nd, al⟩ := s.slots
      obtain ⟨v, as, Ms', h1, h2, h3, h4, h5, h6⟩ := r.out e (fun z => hn z)
      obtain ⟨k1, k2, k3⟩ := h6 (List.nodup_append.mp nd).1
      refine ⟨v, h1, h v H M as ⟨⟨⟨Ms', h3, ?_, fun a ha => ?_⟩, s.ty, s.src, s.keep, s.pin, s.ln⟩, fun _ _ q _ => q, fun _ q => .inl q, fun e => nomatch e⟩ (.m h2)⟩
      · obtain ⟨_, n2, n3⟩ := List.nodup_append.mp nd
        refine List.nodup_append.mpr ⟨k2, List.nodup_append.mpr ⟨k1, n2, fun a ha b hb e => n3 a (h4 a ha) b hb e⟩, fun a ha b hb e => ?_⟩
        rcases List.mem_append.mp hb with hb | hb
        · exact k3 b hb (e ▸ ha)
        · exact n3 a (h5 a ha) b hb e
      · rcases List.mem_append.mp ha with ha | ha
        · exact al a (List.mem_append_left _ (h5 a ha))
        · rcases List.mem_append.mp ha with ha | ha
          · exact al a (List.mem_append_left _ (h4 a ha))
          · exact al a (List.mem_append_right _ ha)
    · exact h.elim
theorem ej_f {i : Nat} {e : Expr} (he : PE X e (L2.tVar i)) : EJ X c W false e (fE i) := by
  refine ⟨fun ρ K K' E E' hk _ h => ?_, PE.imp he fun σ H Q ⟨ρ, M, T, s, h⟩ => ?_⟩
  · unfold fE at h ⊢
    split at h
    · split at h
      · exact hk _ _ h
      · exact h
    · exact h
  · unfold fE at h
    split at h
    · rename_i x e
      split at h
      · rename_i d hd
        have hn : x ≠ .no := fun z => by subst z; rw [frSl] at hd; cases hd
        obtain ⟨Ms, r, nd, al⟩ := s.slots
        obtain ⟨v, as, Ms', h1, h2, h3, h4, h5, h6⟩ := r.out e hn
        obtain ⟨k1, k2, k3⟩ := h6 (List.nodup_append.mp nd).1
        have hM : ∀ a, H a ≠ none → ¬ M a → ¬ (fun a => M a ∧ a ∉ as) a := fun a _ n q => n q.1
        have h2' : RepO c.g c.Z (fun a => M a ∧ a ∉ as) H v x as := h2.re hM (fun _ _ _ z => z)
        have r' := h3.re (M' := fun a => M a ∧ a ∉ as) hM (fun _ _ _ z => z)
        have hz : ∀ a ∈ as, ¬ c.Z a := fun a ha z => by
          rcases s.src a (al a (List.mem_append_left _ (h4 a ha))) with q | q
          · exact c.zi a q z
          · exact c.zd a z q
        have rd : Rep c.g c.Z (fun a => M a ∧ a ∉ as) H v d := h2'.freeze hd fun a ha => ⟨fun z => z.2 ha, hz a ha⟩
        have hlen : i < (ρ.set i .no).length := by
          rw [List.length_set]; exact (List.getElem?_eq_some_iff.mp e).1
        obtain ⟨Ms2, r2, m2, n2⟩ := RepS.put (.v rd) r' hlen
        rw [List.set_set, set_get h1] at r2
        have hT : ∀ a ∈ T, a ∉ as := fun a ha z => (List.nodup_append.mp nd).2.2 a (h4 a z) a ha rfl
        have hsub : ∀ a ∈ Ms2, a ∈ Ms' := fun a ha => by
          rcases m2 a ha with q | q
          · exact q
          · exact absurd q (by simp)
        refine ⟨v, h1, h v H (fun a => M a ∧ a ∉ as) [] ⟨⟨⟨Ms2, r2, ?_, fun a ha => ?_⟩, fun a ha => s.ty a ha.1, fun a ha => s.src a ha.1, s.keep, s.pin, s.ln⟩, fun _ _ q _ => q, fun _ q => .inl q.1, fun e => nomatch e⟩ (.v rd)⟩
        · obtain ⟨_, q2, q3⟩ := List.nodup_append.mp nd
          exact List.nodup_append.mpr ⟨n2 k2 .nil (fun _ z => absurd z (by simp)), q2, fun a ha b hb e => q3 a (h5 a (hsub a ha)) b hb e⟩
        · rcases List.mem_append.mp ha with ha | ha
          · exact ⟨al a (List.mem_append_left _ (h5 a (hsub a ha))), fun z => k3 a z (hsub a ha)⟩
          · exact ⟨al a (List.mem_append_right _ ha), hT a ha⟩
      · exact h.elim
    · exact h.elim
end
/-! ### tests -/
abbrev BS := Rho → (Bool → Rho → Prop) → (Exc → Rho → Prop) → Prop
def MonoB (f : BS) : Prop := ∀ ρ K K' E E', (∀ x ρ', K x ρ' → K' x ρ') → (∀ x ρ', E x ρ' → E' x ρ') → f ρ K E → f ρ K' E'
def rdT (c : Fr) (W : WX) (p : Bool) (f : BS) : TT := fun σ H Q => ∃ ρ M T, SR c M T σ H ρ ∧
  f ρ (fun b ρ' => ∀ H' M', Post c p σ M T H M' T H' ρ' → Q b H')
    (fun x ρ' => ∀ cls dd H' M', Post c false σ M T H M' T H' ρ' → XRep c M' H' cls dd x → W cls dd σ H')
structure TJ (X : Cx) (c : Fr) (W : WX) (p : Bool) (e : Expr) (f : BS) : Prop where
  mono : MonoB f
  run : PT X e (rdT c W p f)
structure WJ (X : Cx) (c : Fr) (W : WX) (p : Bool) (e : Expr) (f : BS) : Prop where
  mono : MonoB f
  run : L2.PW X e (rdT c W p f)
theorem PT.imp {X : Cx} {e : Expr} {t t' : TT} (h : PT X e t) (i : ∀ σ H Q, t' σ H Q → t σ H Q) : PT X e t' := ⟨fun pins s σ H Q I q => h.run pins s σ H Q I (i σ H Q q)⟩
theorem PW.imp {X : Cx} {e : Expr} {t t' : TT} (h : L2.PW X e t) (i : ∀ σ H Q, t' σ H Q → t σ H Q) : L2.PW X e t' := ⟨fun wh pins s σ H Q I q => h.run wh pins s σ H Q I (i σ H Q q)⟩
section
variable {X : Cx} {c : Fr} {W : WX} {p p1 p2 : Bool} {a b : Expr} {f g : BS}
theorem WJ.tj {e : Expr} (h : WJ X c W p e f) : TJ X c W p e f := ⟨h.mono, h.run.pt⟩
/-- a value that is a bool, as a test -/
def bT (f : ES) : BS := fun ρ K E => f ρ (fun x ρ' => match x with
  | .v (.bl b) => K b ρ'
  | _ => False) E
theorem MonoB.bT {f : ES} (hf : Mono f) : MonoB (bT f) := fun ρ K K' E E' hk he h => hf _ _ _ _ _ (fun x ρ' h => by
  split at h
  · exact hk _ _ h
  · exact h) he h
theorem bT_run {f : ES} (hf : Mono f) : ∀ σ H Q, rdT c W p (bT f) σ H Q → rdE c W p f σ H (fun v H1 => ∃ k, v = .bl k ∧ Q k H1) := by
  rintro σ H Q ⟨ρ, M, T, s, h⟩
  refine ⟨ρ, M, T, s, hf _ _ _ _ _ (fun x ρ' h v H' M' as q r => ?_) (fun _ _ h => h) h⟩
  split at h
  · rename_i b
    cases r with
    | v r => cases r; exact ⟨b, rfl, h H' M' q.drop⟩
  · exact h.elim
theorem tj_of {f : ES} {e : Expr} (h : EJ X c W p e f) (ht : PE X e (rdE c W p f) → PT X e (L2.tTest (rdE c W p f))) : TJ X c W p e (bT f) := ⟨MonoB.bT h.mono, PT.imp (ht h.run) (bT_run h.mono)⟩
/-- any expression whose value is a bool: a call, a name .. (not and, or, not, a comparison) -/
theorem tj_val {f : ES} {e : Expr} (h : EJ X c W p e f) (he : ∀ whole, isTrue e X.env whole = (do let v ← whole; standAt e.pos; holding [v] (truthy v)) := by intro _; rfl) : TJ X c W p e (bT f) :=
  tj_of h fun q => L2.pt_val q he
def andT (f g : BS) : BS := fun ρ K E => f ρ (fun b ρ1 => if b = true then g ρ1 K E else K false ρ1) E
def orT (f g : BS) : BS := fun ρ K E => f ρ (fun b ρ1 => if b = true then K true ρ1 else g ρ1 K E) E
def notT (f : BS) : BS := fun ρ K E => f ρ (fun b ρ1 => K (!b) ρ1) E
theorem andT_mono (hf : MonoB f) (hg : MonoB g) : MonoB (andT f g) := fun ρ K K' E E' hk he h => hf _ _ _ _ _ (fun b ρ1 h => by
  split at h
  · rename_i hb; rw [if_pos hb]; exact hg _ _ _ _ _ hk he h
  · rename_i hb; rw [if_neg hb]; exact hk _ _ h) he h
theorem orT_mono (hf : MonoB f) (hg : MonoB g) : MonoB (orT f g) := fun ρ K K' E E' hk he h => hf _ _ _ _ _ (fun b ρ1 h => by
  split at h
  · rename_i hb; rw [if_pos hb]; exact hk _ _ h
  · rename_i hb; rw [if_neg hb]; exact hg _ _ _ _ _ hk he h) he h
theorem Post.left {σ : L2.St} {M M' : Addr → Prop} {T T' : List Addr} {H H' : Hp} {ρ' : Rho} (q : Post c p1 σ M T H M' T' H' ρ') : Post c (p1 && p2) σ M T H M' T' H' ρ' :=
  ⟨q.sr, q.keep, q.new, fun e => q.pu (by rw [Bool.and_eq_true] at e; exact e.1)⟩
theorem wj_and1 {pos : Pos} (h : TJ X c W p a f) : WJ X c W p (.BoolOp .And [a] pos) f := ⟨h.mono, L2.pw_and1 h.run⟩
theorem wj_or1 {pos : Pos} (h : TJ X c W p a f) : WJ X c W p (.BoolOp .Or [a] pos) f := ⟨h.mono, L2.pw_or1 h.run⟩
theorem seqT (hf : MonoB f) (hg : MonoB g) (tf : Bool) (σ : L2.St) (H : Hp) (Q : Bool → Hp → Prop)
    (h : rdT c W (p1 && p2) (if tf then andT f g else orT f g) σ H Q) : rdT c W p1 f σ H (fun b H1 => if b = tf then rdT c W p2 g σ H1 Q else Q (!tf) H1) := by
  obtain ⟨ρ, M, T, s, h⟩ := h
  refine ⟨ρ, M, T, s, ?_⟩
  have go : ∀ (b : Bool) (ρ1 : Rho) (H1 : Hp) (M1 : Addr → Prop), Post c p1 σ M T H M1 T H1 ρ1 → g ρ1 (fun b ρ' => ∀ H' M', Post c (p1 && p2) σ M T H M' T H' ρ' → Q b H')
    (fun x ρ' => ∀ cls dd H' M', Post c false σ M T H M' T H' ρ' → XRep c M' H' cls dd x → W cls dd σ H') → rdT c W p2 g σ H1 Q := fun b ρ1 H1 M1 q h =>
    ⟨ρ1, M1, T, q.sr, hg _ _ _ _ _ (fun b2 ρ2 k H2 M2 q2 => k H2 M2 (q.trans q2 fun _ z => z)) (fun x ρ2 k cls dd H2 M2 q2 r2 => k cls dd H2 M2 (q.trans q2 fun _ z => z).weak r2) h⟩
  cases tf with
  | true =>
    refine hf _ _ _ _ _ (fun b ρ1 h H1 M1 q => ?_) (fun _ _ h => h) h
    cases b with
    | true => exact go true ρ1 H1 M1 q h
    | false => exact h H1 M1 q.left
  | false =>
    refine hf _ _ _ _ _ (fun b ρ1 h H1 M1 q => ?_) (fun _ _ h => h) h
    cases b with
    | true => exact h H1 M1 q.left
    | false => exact go false ρ1 H1 M1 q h
theorem wj_and {rest : List Expr} {pos : Pos} (ha : TJ X c W p1 a f) (hb : WJ X c W p2 (.BoolOp .And (b :: rest) pos) g) : WJ X c W (p1 && p2) (.BoolOp .And (a :: b :: rest) pos) (andT f g) := by
  refine ⟨andT_mono ha.mono hb.mono, PW.imp (L2.pw_and ha.run hb.run) fun σ H Q h => ?_⟩
  exact seqT ha.mono hb.mono true σ H Q h
theorem wj_or {rest : List Expr} {pos : Pos} (ha : TJ X c W p1 a f) (hb : WJ X c W p2 (.BoolOp .Or (b :: rest) pos) g) : WJ X c W (p1 && p2) (.BoolOp .Or (a :: b :: rest) pos) (orT f g) := by
  refine ⟨orT_mono ha.mono hb.mono, PW.imp (L2.pw_or ha.run hb.run) fun σ H Q h => ?_⟩
  obtain ⟨ρ, M, T, s, k⟩ := seqT ha.mono hb.mono false σ H Q h
  refine ⟨ρ, M, T, s, ha.mono _ _ _ _ _ (fun b ρ1 k H1 M1 q => ?_) (fun _ _ h => h) k⟩
  have k := k H1 M1 q
  cases b with
  | true => exact k
  | false => exact k
theorem tj_not {pos : Pos} (h : TJ X c W p a f) : TJ X c W p (.UnaryOp .Not a pos) (notT f) := by
  refine ⟨fun ρ K K' E E' hk he q => h.mono _ _ _ _ _ (fun b ρ1 => hk _ _) he q, PT.imp (L2.pt_not h.run) fun σ H Q q => q⟩
end
/-! ### argument lists -/
inductive VRs (c : Fr) (M : Addr → Prop) (H : Hp) : List V → List EV → List Addr → Prop
  | nil : VRs c M H [] [] []
  | cons {v : V} {x : EV} {as : List Addr} {vs : List V} {xs : List EV} {bs : List Addr} : VR c M H v x as → VRs c M H vs xs bs → VRs c M H (v :: vs) (x :: xs) (bs ++ as)
abbrev AS := Rho → (List EV → Rho → Prop) → (Exc → Rho → Prop) → Prop
def MonoA (f : AS) : Prop := ∀ ρ K K' E E', (∀ x ρ', K x ρ' → K' x ρ') → (∀ x ρ', E x ρ' → E' x ρ') → f ρ K E → f ρ K' E'
def rdA (c : Fr) (W : WX) (p : Bool) (f : AS) : TA := fun σ H Q => ∃ ρ M T, SR c M T σ H ρ ∧
  f ρ (fun xs ρ' => ∀ vs H' M' as, Post c p σ M T H M' (as ++ T) H' ρ' → VRs c M' H' vs xs as → Q vs H')
    (fun x ρ' => ∀ cls dd H' M', Post c false σ M T H M' T H' ρ' → XRep c M' H' cls dd x → W cls dd σ H')
structure AJ (X : Cx) (c : Fr) (W : WX) (p : Bool) (es : List Expr) (f : AS) : Prop where
  mono : MonoA f
  run : PA X es (rdA c W p f)
theorem PA.imp {X : Cx} {es : List Expr} {t t' : TA} (h : PA X es t) (i : ∀ σ H Q, t' σ H Q → t σ H Q) : PA X es t' := ⟨fun pos pins s σ H Q I q => h.run pos pins s σ H Q I (i σ H Q q)⟩
def nilA : AS := fun ρ K _ => K [] ρ
def consA (p2 : Bool) (f : ES) (g : AS) : AS := fun ρ K E => f ρ (fun x ρ1 => g ρ1 (fun xs ρ2 => okB p2 x ∧ K (x :: xs) ρ2) E) E
section
variable {X : Cx} {c : Fr} {W : WX} {p p1 p2 : Bool} {e : Expr} {es : List Expr} {f : ES} {g : AS}
theorem aj_nil : AJ X c W true [] nilA := ⟨fun ρ K K' E E' hk _ h => hk _ _ h, PA.imp L2.pa_nil fun σ H Q ⟨ρ, M, T, s, h⟩ => h [] H M [] (Post.same s) .nil⟩
theorem aj_cons (he : EJ X c W p1 e f) (hr : AJ X c W p2 es g) (hs : starEach (e :: es) X.env = (false, eval e X.env) :: starEach es X.env := by rfl) : AJ X c W (p1 && p2) (e :: es) (consA p2 f g) := by
  refine ⟨fun ρ K K' E E' hk hx h => he.mono _ _ _ _ _ (fun x ρ1 h => hr.mono _ _ _ _ _ (fun xs ρ2 h => ⟨h.1, hk _ _ h.2⟩) hx h) hx h, PA.imp (L2.pa_cons he.run hr.run hs) ?_⟩
  rintro σ H Q ⟨ρ, M, T, s, h⟩
  refine ⟨ρ, M, T, s, he.mono _ _ _ _ _ (fun x ρ1 h v H1 M1 as1 q1 r1 => ?_) (fun _ _ h => h) h⟩
  have ht : ∀ x ∈ T, x ∈ as1 ++ T := fun x hx => List.mem_append_right _ hx
  have k1 : ∀ xs ρ2, (okB p2 x ∧ ∀ vs H' M' as, Post c (p1 && p2) σ M T H M' (as ++ T) H' ρ2 → VRs c M' H' vs (x :: xs) as → Q vs H') →
      ∀ us H2 M2 as2, Post c p2 σ M1 (as1 ++ T) H1 M2 (as2 ++ (as1 ++ T)) H2 ρ2 → VRs c M2 H2 us xs as2 → Q (v :: us) H2 := fun xs ρ2 k us H2 M2 as2 q2 r2 => by
    refine k.2 _ H2 M2 (as2 ++ as1) ?_ (.cons (r1.next q1.sr q2 (fun a ha => List.mem_append_left _ ha) k.1) r2)
    rw [List.append_assoc]
    exact q1.trans q2 ht
  exact ⟨ρ1, M1, as1 ++ T, q1.sr, hr.mono _ _ _ _ _ k1 (fun x ρ2 h cls dd H2 M2 q2 r2 => h cls dd H2 M2 (q1.trans q2 ht).weak.drop r2) h⟩
end
/-! ### tuples, lists -/
/-- shared, each of them -/
def allV : List EV → Option (List D)
  | [] => some []
  | .v d :: xs => (allV xs).map (d :: ·)
  | .b _ :: _ => none
  | .m _ :: _ => none
  | .p _ :: _ => none
/-- owned, each of them -/
def allM : List EV → Option (List Sl)
  | [] => some []
  | .v d :: xs => (allM xs).map (.v d :: ·)
  | .m s :: xs => (allM xs).map (s :: ·)
  | .b _ :: _ => none
  | .p _ :: _ => none
theorem VRs.allV {c : Fr} {M : Addr → Prop} {H : Hp} : ∀ {vs : List V} {xs : List EV} {as : List Addr} {ds : List D}, VRs c M H vs xs as → allV xs = some ds → Reps c.g c.Z M H vs ds ∧ as = []
  | _, _, _, _, .nil, e => by rw [VS.allV] at e; cases e; exact ⟨.nil, rfl⟩
  | _, .v d :: xs, _, _, .cons r rs, e => by
    rw [VS.allV] at e
    cases q : VS.allV xs with
    | none => rw [q] at e; cases e
    | some ds =>
      rw [q] at e; cases e
      obtain ⟨h1, h2⟩ := rs.allV q
      cases r with
      | v r => exact ⟨.cons r h1, by rw [h2]; rfl⟩
  | _, .b _ :: _, _, _, _, e => by simp [VS.allV] at e
  | _, .m _ :: _, _, _, _, e => by simp [VS.allV] at e
  | _, .p _ :: _, _, _, _, e => by simp [VS.allV] at e
theorem RepOs.perm {g : Ge} {Z M : Addr → Prop} {H : Hp} {vs : List V} {ss : List Sl} {as : List Addr} (r : RepOs g Z M H vs ss as) : RepOs g Z M H vs ss as := r
theorem VRs.allM {c : Fr} {M : Addr → Prop} {H : Hp} : ∀ {vs : List V} {xs : List EV} {as : List Addr} {ss : List Sl}, VRs c M H vs xs as → allM xs = some ss → ∃ bs, RepOs c.g c.Z M H vs ss bs ∧ (∀ a, a ∈ bs ↔ a ∈ as) ∧ (as.Nodup → bs.Nodup)
  | _, _, _, _, .nil, e => by rw [VS.allM] at e; cases e; exact ⟨[], .nil, fun _ => Iff.rfl, fun h => h⟩
  | _, .v d :: xs, _, _, .cons (as := as) (bs := bs) r rs, e => by
    rw [VS.allM] at e
    cases q : VS.allM xs with
    | none => rw [q] at e; cases e
    | some ss =>
      rw [q] at e; cases e
      obtain ⟨cs, h1, h2, h3⟩ := rs.allM q
      cases r with
      | v r => exact ⟨[] ++ cs, .cons (.v r) h1, fun a => by simpa using h2 a, fun h => by simpa using h3 (by simpa using h)⟩
  | _, .m s :: xs, _, _, .cons (as := as) (bs := bs) r rs, e => by
    rw [VS.allM] at e
    cases q : VS.allM xs with
    | none => rw [q] at e; cases e
    | some ss =>
      rw [q] at e; cases e
      obtain ⟨cs, h1, h2, h3⟩ := rs.allM q
      cases r with
      | m r =>
        refine ⟨as ++ cs, .cons r h1, fun a => ?_, fun h => ?_⟩
        · rw [List.mem_append, List.mem_append, h2 a]; exact Or.comm
        · obtain ⟨n1, n2, n3⟩ := List.nodup_append.mp h
          exact List.nodup_append.mpr ⟨n2, h3 n1, fun a ha b hb e => n3 b ((h2 b).mp hb) a ha e.symm⟩
  | _, .b _ :: _, _, _, _, e => by simp [VS.allM] at e
  | _, .p _ :: _, _, _, _, e => by simp [VS.allM] at e
theorem VRs.length {c : Fr} {M : Addr → Prop} {H : Hp} : ∀ {vs : List V} {xs : List EV} {as : List Addr}, VRs c M H vs xs as → vs.length = xs.length
  | _, _, _, .nil => rfl
  | _, _, _, .cons _ rs => by rw [List.length_cons, List.length_cons, rs.length]
/-- a tuple: shared where all its parts are -/
def tupE (g : AS) : ES := fun ρ K E => g ρ (fun xs ρ' => xs.length ≤ 1000 ∧ match allV xs with
  | some ds => K (.v (.tup ds)) ρ'
  | none => (match allM xs with
    | some ss => K (.m (.t ss)) ρ'
    | none => False)) E
/-- a list: its items shared -/
def lstE (g : AS) : ES := fun ρ K E => g ρ (fun xs ρ' => xs.length ≤ 1000 ∧ match allV xs with
  | some ds => K (.m (.l ds)) ρ'
  | none => False) E
section
variable {X : Cx} {c : Fr} {W : WX} {p p1 p2 : Bool} {es : List Expr} {g : AS} {pos : Pos} {σ : L2.St} {M M' : Addr → Prop} {T T' as : List Addr} {H H' : Hp} {ρ' : Rho}
theorem le1000 {n : Nat} (h : n ≤ 1000) : n ≤ sizeLine := Nat.le_trans h (by decide)
/-- the same, its temporaries in another order -/
theorem Post.perm {bs : List Addr} (q : Post c p σ M T H M' (as ++ T) H' ρ') (h : ∀ a, a ∈ bs ↔ a ∈ as) (n : as.Nodup → bs.Nodup) : Post c p σ M T H M' (bs ++ T) H' ρ' := by
  obtain ⟨Ms, r, nd, al⟩ := q.sr.slots
  refine ⟨⟨⟨Ms, r, ?_, fun a ha => al a ?_⟩, q.sr.ty, q.sr.src, q.sr.keep, q.sr.pin, q.sr.ln⟩, q.keep, q.new, q.pu⟩
  · obtain ⟨n1, n2, n3⟩ := List.nodup_append.mp nd
    obtain ⟨m1, m2, m3⟩ := List.nodup_append.mp n2
    refine List.nodup_append.mpr ⟨n1, List.nodup_append.mpr ⟨n m1, m2, fun a ha b hb => m3 a ((h a).mp ha) b hb⟩, fun a ha b hb => n3 a ha b ?_⟩
    rcases List.mem_append.mp hb with hb | hb
    · exact List.mem_append_left _ ((h b).mp hb)
    · exact List.mem_append_right _ hb
  · rcases List.mem_append.mp ha with ha | ha
    · exact List.mem_append_left _ ha
    · rcases List.mem_append.mp ha with ha | ha
      · exact List.mem_append_right _ (List.mem_append_left _ ((h a).mp ha))
      · exact List.mem_append_right _ (List.mem_append_right _ ha)
theorem Post.nd (q : Post c p σ M T H M' (as ++ T) H' ρ') : as.Nodup := by
  obtain ⟨Ms, r, nd, al⟩ := q.sr.slots
  exact (List.nodup_append.mp (List.nodup_append.mp nd).2.1).1
/-- a new list or instance that is owned from here on by a value on its way -/
theorem Post.own {a : Addr} {o : HO} (q : Post c p σ M T H M' T' H' ρ') (hn : H' a = none) (hy : Typed (upd H' a o) a) : Post c p σ M T H (fun b => M' b ∨ b = a) (a :: T') (upd H' a o) ρ' := by
  have x : Ext H' (upd H' a o) := Ext.new hn
  have q' := q.ext x
  obtain ⟨Ms, r, nd, al⟩ := q'.sr.slots
  have hm : ¬ M' a := fun z => (q.sr.ty a z).ne hn
  have hH0 : a ∈ c.io ∨ c.H0 a = none := by
    by_cases z : a ∈ c.io
    · exact .inl z
    · refine .inr ?_
      cases e : c.H0 a with
      | none => rfl
      | some u => rw [q.sr.keep a u e z] at hn; cases hn
  obtain ⟨Ms0, r0, nd0, al0⟩ := q.sr.slots
  have mv : Moved (fun _ => False) M' (fun b => M' b ∨ b = a) H' (upd H' a o) := ⟨fun b u e _ => x b u e, fun _ h => h.elim, fun _ h => h.elim, fun b h => h.imp id fun z => by rw [z]; exact hn⟩
  refine ⟨⟨⟨Ms0, r0.moved mv (fun _ _ z => z), ?_, fun b hb => ?_⟩, fun b hb => ?_, fun b hb => ?_, q'.sr.keep, q'.sr.pin, q'.sr.ln⟩, q'.keep, fun b hb => ?_, q'.pu⟩
  · obtain ⟨n1, n2, n3⟩ := List.nodup_append.mp nd0
    refine List.nodup_append.mpr ⟨n1, List.nodup_cons.mpr ⟨fun z => hm (al0 a (List.mem_append_right _ z)), n2⟩, fun b hb d hd e => ?_⟩
    rcases List.mem_cons.mp hd with z | z
    · exact hm (z ▸ e ▸ al0 b (List.mem_append_left _ hb))
    · exact n3 b hb d z e
  · rcases List.mem_append.mp hb with z | z
    · exact .inl (al0 b (List.mem_append_left _ z))
    · rcases List.mem_cons.mp z with z | z
      · exact .inr z
      · exact .inl (al0 b (List.mem_append_right _ z))
  · rcases hb with z | z
    · exact q'.sr.ty b z
    · rw [z]; exact hy
  · rcases hb with z | z
    · exact q.sr.src b z
    · rw [z]; exact hH0
  · rcases hb with z | z
    · exact q.new b z
    · rw [z]
      by_cases hma : M a
      · exact .inl hma
      · refine .inr ?_
        cases e : H a with
        | none => rfl
        | some u => rw [q.keep a u e fun y => absurd y hma] at hn; cases hn
/-- what owns nothing and stood stands, whatever new is owned -/
theorem Post.own_mv {a : Addr} {o : HO} (hn : H' a = none) : Moved (fun _ => False) M' (fun b => M' b ∨ b = a) H' (upd H' a o) :=
  ⟨fun b u e _ => Ext.new hn b u e, fun _ h => h.elim, fun _ h => h.elim, fun b h => h.imp id fun z => by rw [z]; exact hn⟩
theorem ej_tup {x1} (h : AJ X c W p es g) (hK : X.K = c.g.K) : EJ X c W p (.Tuple es x1 pos) (tupE g) := by
  refine ⟨fun ρ K K' E E' hk he q => h.mono _ _ _ _ _ (fun xs ρ' k => ⟨k.1, ?_⟩) he q, PE.imp (L2.pe_tup h.run) ?_⟩
  · have k2 := k.2
    split at k2
    · exact hk _ _ k2
    · split at k2
      · exact hk _ _ k2
      · exact k2
  · rintro σ H Q ⟨ρ, M, T, s, k⟩
    refine ⟨ρ, M, T, s, h.mono _ _ _ _ _ (fun xs ρ' k vs H' M' as q r => ⟨by rw [r.length]; exact le1000 k.1, fun pa hp => ?_⟩) (fun _ _ h => h) k⟩
    have k2 := k.2
    have x : Ext H' (upd H' pa (.tup vs)) := Ext.new hp
    split at k2
    · rename_i ds e
      obtain ⟨r', ea⟩ := r.allV e
      subst ea
      exact k2 _ _ M' [] (q.ext x) (.v (.tup (.inl (.inl L2.upd_same)) (r'.ext x)))
    · split at k2
      · rename_i ss e
        obtain ⟨bs, r', hb, nb⟩ := r.allM e
        exact k2 _ _ M' bs ((q.perm hb nb).ext x) (.m (.t (.inl (.inl L2.upd_same)) (r'.ext x)))
      · exact k2.elim
theorem ej_lst (h : AJ X c W p es g) : EJ X c W p (.List es pos) (lstE g) := by
  refine ⟨fun ρ K K' E E' hk he q => h.mono _ _ _ _ _ (fun xs ρ' k => ⟨k.1, ?_⟩) he q, PE.imp (L2.pe_lst h.run) ?_⟩
  · have k2 := k.2
    split at k2
    · exact hk _ _ k2
    · exact k2
  · rintro σ H Q ⟨ρ, M, T, s, k⟩
    refine ⟨ρ, M, T, s, h.mono _ _ _ _ _ (fun xs ρ' k vs H' M' as q r => ⟨by rw [r.length]; exact le1000 k.1, fun pa hp => ?_⟩) (fun _ _ h => h) k⟩
    have k2 := k.2
    split at k2
    · rename_i ds e
      obtain ⟨r', ea⟩ := r.allV e
      subst ea
      exact k2 _ _ _ [pa] (q.own hp (.inl ⟨_, L2.upd_same⟩)) (.m (.l L2.upd_same (r'.moved (Post.own_mv hp))))
    · exact k2.elim
end
end VS
set_option Elab.async false
set_option linter.all false
set_option maxRecDepth 100000
set_option maxHeartbeats 4000000
/-! VS4: operators, comparisons, subscripts. Own work. -/
namespace VS
open PySem PySem.Spec PyProof.Rows
open L2 (V Hp HO upd SqL SqT Rd Cx TE TT TA TS VK XK WX PE PT PA PS PSs OpR RelV)
/-- a list, however it is held -/
def asL : EV → Option (List D)
  | .v (.lst _ ds) => some ds
  | .b ds => some ds
  | .m (.l ds) => some ds
  | _ => none
/-- a tuple of shared data -/
def asT : EV → Option (List D)
  | .v (.tup ds) => some ds
  | _ => none
section
variable {X : Cx} {c : Fr} {W : WX} {p p1 p2 : Bool} {M M' M2 : Addr → Prop} {T T' as as1 as2 : List Addr} {σ : L2.St} {H H' H2 : Hp} {ρ ρ' ρ2 : Rho}
theorem VR.list {v : V} {x : EV} {ds : List D} (r : VR c M H v x as) (e : asL x = some ds) : ∃ a vs, v = .ref a ∧ SqL c.g.K H a vs ∧ Reps c.g c.Z M H vs ds := by
  cases r with
  | v r =>
    cases r with
    | lst l r => cases e; exact ⟨_, _, rfl, l.sq, r⟩
    | _ => cases e
  | b l r => cases e; exact ⟨_, _, rfl, .inl (.inl l), r⟩
  | m r =>
    cases r with
    | l h r => cases e; exact ⟨_, _, rfl, .inl (.inl h), r⟩
    | _ => cases e
theorem VR.tuple {v : V} {x : EV} {ds : List D} (r : VR c M H v x as) (e : asT x = some ds) : ∃ a vs, v = .ref a ∧ SqT c.g.K H a vs ∧ Reps c.g c.Z M H vs ds := by
  cases r with
  | v r =>
    cases r with
    | tup l r => cases e; exact ⟨_, _, rfl, l, r⟩
    | _ => cases e
  | _ => cases e
theorem VR.int {v : V} {i : Int} (r : VR c M H v (.v (.int i)) as) : v = .int i := by
  cases r with
  | v r => cases r; rfl
theorem VR.str {v : V} {i : Str} (r : VR c M H v (.v (.str i)) as) : v = .str i := by
  cases r with
  | v r => cases r; rfl
theorem VR.bl {v : V} {i : Bool} (r : VR c M H v (.v (.bl i)) as) : v = .bl i := by
  cases r with
  | v r => cases r; rfl
abbrev BR := EV → EV → (EV → Rho → Prop) → (Exc → Rho → Prop) → Rho → Prop
def MonoR (R : BR) : Prop := ∀ x y ρ K K' E E', (∀ x ρ', K x ρ' → K' x ρ') → (∀ x ρ', E x ρ' → E' x ρ') → R x y K E ρ → R x y K' E' ρ
/-- the reading r does what R says -/
def Says (c : Fr) (r : L2.R2) (R : BR) : Prop := ∀ (p : Bool) σ M T H M2 H2 ρ2 as1 as2 v u x y Q E, Post c p σ M T H M2 (as2 ++ (as1 ++ T)) H2 ρ2 → VR c M2 H2 v x as1 → VR c M2 H2 u y as2 →
      R x y (fun ev ρ' => ∀ v H' M' as, Post c p σ M T H M' (as ++ T) H' ρ' → VR c M' H' v ev as → Q v H') E ρ2 → r v u H2 Q
theorem ej_op {op : Operator} {a b : Expr} {f g : ES} {r : L2.R2} {R : BR} {pos : Pos} (ho : OpR X (binaryOp op) r) (hM : MonoR R) (hR : Says c r R) (ha : EJ X c W p1 a f) (hb : EJ X c W p2 b g) :
    EJ X c W (p1 && p2) (.BinOp a op b pos) (bin p2 f g R) :=
  ej_bin ha hb (fun h1 h2 => L2.pe_op ho h1 h2) hM fun σ M T H M2 H2 ρ2 as1 as2 v u x y Q E => hR (p1 && p2) σ M T H M2 H2 ρ2 as1 as2 v u x y Q E
theorem ej_cmp {op : CmpOp} {a b : Expr} {f g : ES} {r : L2.R2} {R : BR} {pos : Pos} (ho : OpR X (compareOp op) r) (hM : MonoR R) (hR : Says c r R) (hm : behindInMarks op b = false) (ha : EJ X c W p1 a f) (hb : EJ X c W p2 b g) :
    EJ X c W (p1 && p2) (.Compare a [op] [b] pos) (bin p2 f g R) :=
  ej_bin ha hb (fun h1 h2 => L2.pe_cmpR ho h1 h2 hm) hM fun σ M T H M2 H2 ρ2 as1 as2 v u x y Q E => hR (p1 && p2) σ M T H M2 H2 ρ2 as1 as2 v u x y Q E
theorem tj_cmp {op : CmpOp} {a b : Expr} {f g : ES} {r : L2.R2} {R : BR} {pos : Pos} (ho : OpR X (compareOp op) r) (hM : MonoR R) (hR : Says c r R) (hm : behindInMarks op b = false) (ha : EJ X c W p1 a f) (hb : EJ X c W p2 b g) :
    TJ X c W (p1 && p2) (.Compare a [op] [b] pos) (bT (bin p2 f g R)) := by
  have h := ej_cmp (W := W) (pos := pos) ho hM hR hm ha hb
  refine ⟨MonoB.bT h.mono, PT.imp (L2.pt_cmpR ho ha.run hb.run hm) fun σ H Q q => ?_⟩
  exact seq2 ha.mono hb.mono (fun σ M T H M2 H2 ρ2 as1 as2 v u x y Q E => hR (p1 && p2) σ M T H M2 H2 ρ2 as1 as2 v u x y Q E) σ H _ (bT_run h.mono σ H Q q)
/-! ints -/
def intR (C : Int → Int → Prop) (d : Int → Int → D) : BR := fun x y K _ ρ => match x, y with
  | .v (.int i), .v (.int j) => C i j ∧ K (.v (d i j)) ρ
  | _, _ => False
theorem intR_mono {C : Int → Int → Prop} {d : Int → Int → D} : MonoR (intR C d) := fun x y ρ K K' E E' hk _ h => by
  unfold intR at h ⊢
  split at h
  · exact ⟨h.1, hk _ _ h.2⟩
  · exact h
theorem intR_says {C C' : Int → Int → Prop} {d : Int → Int → D} {g : Int → Int → V} (hC : ∀ i j, C i j → C' i j) (hd : ∀ (M : Addr → Prop) (H : Hp) i j, Rep c.g c.Z M H (g i j) (d i j)) : Says c (L2.rI C' g) (intR C d) := by
  intro p σ M T H M2 H2 ρ2 as1 as2 v u x y Q E q r1 r2 h
  unfold intR at h
  split at h
  · exact ⟨_, _, r1.int, r2.int, hC _ _ h.1, h.2 _ H2 M2 [] q.drop.drop (.v (hd _ _ _ _))⟩
  · exact h.elim
theorem intR_says0 {d : Int → Int → D} {g : Int → Int → V} (hd : ∀ (M : Addr → Prop) (H : Hp) i j, Rep c.g c.Z M H (g i j) (d i j)) : Says c (L2.rI0 g) (intR (fun _ _ => True) d) := by
  intro p σ M T H M2 H2 ρ2 as1 as2 v u x y Q E q r1 r2 h
  unfold intR at h
  split at h
  · exact ⟨_, _, r1.int, r2.int, h.2 _ H2 M2 [] q.drop.drop (.v (hd _ _ _ _))⟩
  · exact h.elim
/-- a product whose size is in bounds -/
def MulOk (i j : Int) : Prop := i.natAbs.log2 + j.natAbs.log2 < 130000000
theorem MulOk.ok {i j : Int} (h : MulOk i j) : IntMulOk i j := by
  have b : ∀ x : Int, Builtin.Int.intBits x ≤ x.natAbs.log2 + 1 := fun x => by
    unfold Builtin.Int.intBits
    split <;> omega
  have h1 := b i
  have h2 := b j
  have h3 : i.natAbs.log2 + j.natAbs.log2 < 130000000 := h
  have e : bitsLine = 134217728 := by decide
  unfold IntMulOk
  intro z
  rw [Bool.and_eq_true] at z
  have z2 := z.2
  unfold Builtin.Int.intTooBig at z2
  have z3 := of_decide_eq_true z2
  rw [e] at z3
  omega
theorem op_mulV : OpR X (binaryOp .Mult) (L2.rI MulOk fun i j => .int (i * j)) := L2.opI fun _ _ _ _ _ _ _ hc q => mul_int q hc.ok
/-- a divisor in bounds -/
def DivOk (_ j : Int) : Prop := j ≠ 0 ∧ j.natAbs.log2 < 9000
theorem op_fdivV : OpR X (binaryOp .FloorDiv) (L2.rI DivOk fun i j => .int (i.fdiv j)) := L2.opI fun i j _ _ _ _ _ hc q => floordiv_int hc.1 q (.inl (PyProof.noPylong_of_log2 hc.2))
/-! + of ints, texts, tuples, lists -/
theorem op_catL : OpR X (binaryOp .Add) (fun x y H Q => ∃ l b xs zs, x = .ref l ∧ y = .ref b ∧ SqL X.K H l xs ∧ SqL X.K H b zs ∧ xs.length + zs.length ≤ sizeLine ∧ ∀ p, H p = none → Q (.ref p) (upd H p (.lst (xs ++ zs)))) := by
  intro pins s σ H x y v u Q I rx ry h
  obtain ⟨l, b, xs, zs, rfl, rfl, hH, hB, hz, q⟩ := h
  cases rx
  cases ry
  obtain ⟨its, r, pl, _⟩ := I.list hH
  obtain ⟨its2, r2, pl2, _⟩ := I.list hB
  have hsz : its.toArray.size + its2.toArray.size ≤ sizeLine := by rw [List.size_toArray, List.size_toArray, ← r.length, ← r2.length]; exact hz
  obtain ⟨⟨cls, dd, data, sl⟩, ho, hc, n, hd⟩ := pl.isList
  obtain ⟨⟨cls2, dd2, data2, sl2⟩, ho2, hc2, n2, hd2⟩ := pl2.isList
  simp only at hc hd hc2 hd2
  subst hc hd hc2 hd2
  have e : its.toArray ++ its2.toArray = (its ++ its2).toArray := by simp
  refine concat_meets ⟨_, ho, rfl⟩ ⟨_, ho2, rfl⟩ noFill_list_add seq_list_add PySem.F.slot_list_add PySem.F.entry_list_add (PySem.F.args_list_add_2 _ _) (list_addW l b its.toArray its2.toArray n n2 dd dd2 sl sl2 hsz) ⟨ho, ho2, ?_⟩
  rw [e]
  exact ⟨.ref _, _, I.lnew (t' := s.toks) (r.append r2) (by rw [List.length_append]; exact hz), rfl, q _ I.fresh⟩
def addR : BR := fun x y K _ ρ => match x, y with
  | .v (.int i), .v (.int j) => K (.v (.int (i + j))) ρ
  | .v (.str a), .v (.str b) => a.length + b.length ≤ sizeLine ∧ K (.v (.str (a ++ b))) ρ
  | .v (.tup a), .v (.tup b) => (a ≠ [] ∧ b ≠ [] ∧ a.length + b.length ≤ 100000) ∧ K (.v (.tup (a ++ b))) ρ
  | x, y => match asL x, asL y with
    | some a, some b => a.length + b.length ≤ 1000000 ∧ K (.m (.l (a ++ b))) ρ
    | _, _ => False
theorem addR_mono : MonoR addR := fun x y ρ K K' E E' hk _ h => by
  unfold addR at h ⊢
  split at h
  · exact hk _ _ h
  · exact ⟨h.1, hk _ _ h.2⟩
  · exact ⟨h.1, hk _ _ h.2⟩
  · split at h
    · exact ⟨h.1, hk _ _ h.2⟩
    · exact h
abbrev rAdd : L2.R2 := fun x y H Q => L2.rI0 (fun i j => .int (i + j)) x y H Q ∨ (∃ i j, x = .str i ∧ y = .str j ∧ i.length + j.length ≤ sizeLine ∧ Q (.str (i ++ j)) H) ∨ L2.rCatT X.K x y H Q ∨
  ∃ l b xs zs, x = .ref l ∧ y = .ref b ∧ SqL X.K H l xs ∧ SqL X.K H b zs ∧ xs.length + zs.length ≤ sizeLine ∧ ∀ p, H p = none → Q (.ref p) (upd H p (.lst (xs ++ zs)))
theorem op_addV : OpR X (binaryOp .Add) (rAdd (X := X)) := L2.op_add.or (L2.op_add_str.or (L2.op_catT.or op_catL))
theorem le_line {n k : Nat} (h : n ≤ k) (hk : k ≤ 1000000) : n ≤ sizeLine := Nat.le_trans h (Nat.le_trans hk (by decide))
theorem addR_says (hK : X.K = c.g.K) : Says c (rAdd (X := X)) addR := by
  intro p σ M T H M2 H2 ρ2 as1 as2 v u x y Q E q r1 r2 h
  unfold addR at h
  split at h
  · exact .inl ⟨_, _, r1.int, r2.int, h _ H2 M2 [] q.drop.drop (.v (.int _))⟩
  · exact .inr (.inl ⟨_, _, r1.str, r2.str, h.1, h.2 _ H2 M2 [] q.drop.drop (.v (.str _))⟩)
  · rename_i a b
    obtain ⟨l1, vs1, e1, t1, q1⟩ := r1.tuple rfl
    obtain ⟨l2, vs2, e2, t2, q2⟩ := r2.tuple rfl
    obtain ⟨⟨n1, n2, n3⟩, k⟩ := h
    have z1 : vs1 ≠ [] := fun z => n1 (by have := q1.length; rw [z] at this; exact List.length_eq_zero_iff.mp this.symm)
    have z2 : vs2 ≠ [] := fun z => n2 (by have := q2.length; rw [z] at this; exact List.length_eq_zero_iff.mp this.symm)
    refine .inr (.inr (.inl ⟨l1, l2, vs1, vs2, e1, e2, hK ▸ t1, hK ▸ t2, z1, by rw [q1.length, q2.length]; exact le_line n3 (by decide), fun z => absurd z z2, fun _ pa hp => ?_⟩))
    exact k _ _ M2 [] (q.drop.drop.ext (Ext.new hp)) (.v (.tup (.inl (.inl L2.upd_same)) ((q1.append q2).ext (Ext.new hp))))
  · split at h
    · rename_i a b ea eb
      obtain ⟨l1, vs1, e1, t1, q1⟩ := r1.list ea
      obtain ⟨l2, vs2, e2, t2, q2⟩ := r2.list eb
      refine .inr (.inr (.inr ⟨l1, l2, vs1, vs2, e1, e2, hK ▸ t1, hK ▸ t2, by rw [q1.length, q2.length]; exact le_line h.1 (by decide), fun pa hp => ?_⟩))
      exact h.2 _ _ _ [pa] (q.drop.drop.own hp (.inl ⟨_, L2.upd_same⟩)) (.m (.l L2.upd_same ((q1.append q2).moved (Post.own_mv hp))))
    · exact h.elim
theorem ej_add {a b : Expr} {f g : ES} {pos : Pos} (hK : X.K = c.g.K) (ha : EJ X c W p1 a f) (hb : EJ X c W p2 b g) : EJ X c W (p1 && p2) (.BinOp a .Add b pos) (bin p2 f g addR) := ej_op op_addV addR_mono (addR_says hK) ha hb
theorem ej_sub {a b : Expr} {f g : ES} {pos : Pos} (ha : EJ X c W p1 a f) (hb : EJ X c W p2 b g) : EJ X c W (p1 && p2) (.BinOp a .Sub b pos) (bin p2 f g (intR (fun _ _ => True) fun i j => .int (i - j))) :=
  ej_op L2.op_sub intR_mono (intR_says0 fun _ _ _ _ => .int _) ha hb
theorem ej_mul {a b : Expr} {f g : ES} {pos : Pos} (ha : EJ X c W p1 a f) (hb : EJ X c W p2 b g) : EJ X c W (p1 && p2) (.BinOp a .Mult b pos) (bin p2 f g (intR MulOk fun i j => .int (i * j))) :=
  ej_op op_mulV intR_mono (intR_says (fun _ _ h => h) fun _ _ _ _ => .int _) ha hb
theorem ej_fdiv {a b : Expr} {f g : ES} {pos : Pos} (ha : EJ X c W p1 a f) (hb : EJ X c W p2 b g) : EJ X c W (p1 && p2) (.BinOp a .FloorDiv b pos) (bin p2 f g (intR DivOk fun i j => .int (i.fdiv j))) :=
  ej_op op_fdivV intR_mono (intR_says (fun _ _ h => h) fun _ _ _ _ => .int _) ha hb
theorem ej_mod {a b : Expr} {f g : ES} {pos : Pos} (ha : EJ X c W p1 a f) (hb : EJ X c W p2 b g) : EJ X c W (p1 && p2) (.BinOp a .Mod b pos) (bin p2 f g (intR (fun _ j => j ≠ 0) fun i j => .int (i.fmod j))) :=
  ej_op L2.op_modN intR_mono (intR_says (fun _ _ h => h) fun _ _ _ _ => .int _) ha hb
/-! order of ints -/
abbrev ltR : BR := intR (fun _ _ => True) fun i j => .bl (decide (i < j))
abbrev gtR : BR := intR (fun _ _ => True) fun i j => .bl (decide (j < i))
theorem ltR_says : Says c (L2.rI0 fun i j => .bl (decide (i < j))) ltR := intR_says0 fun _ _ _ _ => .bl _
theorem gtR_says : Says c (L2.rI0 fun i j => .bl (decide (j < i))) gtR := intR_says0 fun _ _ _ _ => .bl _
section
variable {a b : Expr} {f g : ES} {pos : Pos}
theorem ej_lt (ha : EJ X c W p1 a f) (hb : EJ X c W p2 b g) : EJ X c W (p1 && p2) (.Compare a [.Lt] [b] pos) (bin p2 f g ltR) := ej_cmp L2.op_lt intR_mono ltR_says (L2.nomark _) ha hb
theorem tj_lt (ha : EJ X c W p1 a f) (hb : EJ X c W p2 b g) : TJ X c W (p1 && p2) (.Compare a [.Lt] [b] pos) (bT (bin p2 f g ltR)) := tj_cmp L2.op_lt intR_mono ltR_says (L2.nomark _) ha hb
theorem tj_gt (ha : EJ X c W p1 a f) (hb : EJ X c W p2 b g) : TJ X c W (p1 && p2) (.Compare a [.Gt] [b] pos) (bT (bin p2 f g gtR)) := tj_cmp L2.op_gt intR_mono gtR_says (L2.nomark _) ha hb
end
end
/-! equality of data -/
mutual
def py : D → PyData
  | .non => .none
  | .bl b => .bool b
  | .int i => .int i
  | .str s => .str s
  | .tup ds => .tuple (pys ds)
  | .lst _ ds => .list (pys ds)
  | .ty _ => .none
  | .fn _ => .none
  | .dct _ _ => .none
def pys : List D → List PyData
  | [] => []
  | d :: ds => py d :: pys ds
end
mutual
def eqD : D → D → Bool
  | .non, .non => true
  | .bl a, .bl b => a == b
  | .bl a, .int j => (if a then 1 else 0) == j
  | .int i, .bl b => i == (if b then 1 else 0)
  | .int i, .int j => i == j
  | .str x, .str y => x == y
  | .tup xs, .tup ys => eqDs xs ys
  | .lst _ xs, .lst _ ys => eqDs xs ys
  | _, _ => false
def eqDs : List D → List D → Bool
  | [], [] => true
  | x :: xs, y :: ys => eqD x y && eqDs xs ys
  | _, _ => false
end
mutual
def depD : D → Nat
  | .tup ds => depDs ds + 1
  | .lst _ ds => depDs ds + 1
  | _ => 0
def depDs : List D → Nat
  | [] => 0
  | d :: ds => max (depD d) (depDs ds)
end
mutual
def cmpD : D → Bool
  | .tup ds => cmpDs ds
  | .lst _ ds => cmpDs ds
  | .ty _ => false
  | .fn _ => false
  | .dct _ _ => false
  | _ => true
def cmpDs : List D → Bool
  | [] => true
  | d :: ds => cmpD d && cmpDs ds
end
mutual
theorem py_plain : ∀ d : D, (py d).plain = true
  | .non => rfl
  | .bl _ => rfl
  | .int _ => rfl
  | .str _ => rfl
  | .tup ds => by rw [py, PyData.plain]; exact pys_plain ds
  | .lst _ ds => by rw [py, PyData.plain]; exact pys_plain ds
  | .ty _ => rfl
  | .fn _ => rfl
  | .dct _ _ => rfl
theorem pys_plain : ∀ ds : List D, PyData.plainAll (pys ds) = true
  | [] => rfl
  | d :: ds => by rw [pys, PyData.plainAll, py_plain d, pys_plain ds]; rfl
end
mutual
theorem py_depth : ∀ d : D, (py d).depth = depD d
  | .non => rfl
  | .bl _ => rfl
  | .int _ => rfl
  | .str _ => rfl
  | .tup ds => by rw [py, PyData.depth, depD, pys_depth ds]
  | .lst _ ds => by rw [py, PyData.depth, depD, pys_depth ds]
  | .ty _ => rfl
  | .fn _ => rfl
  | .dct _ _ => rfl
theorem pys_depth : ∀ ds : List D, PyData.depthAll (pys ds) = depDs ds
  | [] => rfl
  | d :: ds => by rw [pys, PyData.depthAll, depDs, py_depth d, pys_depth ds]
end
mutual
theorem py_eqv : ∀ a b : D, cmpD a = true → cmpD b = true → PyData.eqv (py a) (py b) = eqD a b
  | .tup xs, .tup ys, ha, hb => by
    rw [cmpD] at ha hb
    rw [py, py, PyData.eqv, eqD]; exact pys_eqv xs ys ha hb
  | .lst _ xs, .lst _ ys, ha, hb => by
    rw [cmpD] at ha hb
    rw [py, py, PyData.eqv, eqD]; exact pys_eqv xs ys ha hb
  | .non, b, _, hb => by cases b <;> first | rfl | exact absurd hb (by simp [cmpD])
  | .bl _, b, _, hb => by cases b <;> first | rfl | exact absurd hb (by simp [cmpD])
  | .int _, b, _, hb => by cases b <;> first | rfl | exact absurd hb (by simp [cmpD])
  | .str _, b, _, hb => by cases b <;> first | rfl | exact absurd hb (by simp [cmpD])
  | .tup _, .non, _, _ => rfl
  | .tup _, .bl _, _, _ => rfl
  | .tup _, .int _, _, _ => rfl
  | .tup _, .str _, _, _ => rfl
  | .tup _, .lst _ _, _, _ => rfl
  | .lst _ _, .non, _, _ => rfl
  | .lst _ _, .bl _, _, _ => rfl
  | .lst _ _, .int _, _, _ => rfl
  | .lst _ _, .str _, _, _ => rfl
  | .lst _ _, .tup _, _, _ => rfl
  | .tup _, .ty _, _, hb => absurd hb (by simp [cmpD])
  | .tup _, .fn _, _, hb => absurd hb (by simp [cmpD])
  | .tup _, .dct _ _, _, hb => absurd hb (by simp [cmpD])
  | .lst _ _, .ty _, _, hb => absurd hb (by simp [cmpD])
  | .lst _ _, .fn _, _, hb => absurd hb (by simp [cmpD])
  | .lst _ _, .dct _ _, _, hb => absurd hb (by simp [cmpD])
  | .ty _, _, ha, _ => absurd ha (by simp [cmpD])
  | .fn _, _, ha, _ => absurd ha (by simp [cmpD])
  | .dct _ _, _, ha, _ => absurd ha (by simp [cmpD])
theorem pys_eqv : ∀ xs ys : List D, cmpDs xs = true → cmpDs ys = true → PyData.eqvAll (pys xs) (pys ys) = eqDs xs ys
  | [], [], _, _ => rfl
  | [], _ :: _, _, _ => rfl
  | _ :: _, [], _, _ => rfl
  | x :: xs, y :: ys, ha, hb => by
    rw [cmpDs, Bool.and_eq_true] at ha hb
    rw [pys, pys, PyData.eqvAll, eqDs, py_eqv x y ha.1 hb.1, pys_eqv xs ys ha.2 hb.2]
end
section
variable {g : Ge} {Z M : Addr → Prop} {H : Hp}
mutual
theorem Rep.dp : ∀ {v : V} {d : D}, Rep g Z M H v d → cmpD d = true → L2.Dp g.K H v (py d)
  | _, _, .non, _ => .non
  | _, _, .bl b, _ => .bl b
  | _, _, .int i, _ => .int i
  | _, _, .str s, _ => .str s
  | _, _, .ty _, k => absurd k (by simp [cmpD])
  | _, _, .fn _, k => absurd k (by simp [cmpD])
  | _, _, .tup h r, k => .tup h (r.dp (by simpa [cmpD] using k))
  | _, _, .lst h r, k => .lst h.sq (r.dp (by simpa [cmpD] using k))
  | _, _, .dct _ _ _ _, k => absurd k (by simp [cmpD])
theorem Reps.dp : ∀ {vs : List V} {ds : List D}, Reps g Z M H vs ds → cmpDs ds = true → L2.DpAll g.K H vs (pys ds)
  | _, _, .nil, _ => .nil
  | _, d :: ds, .cons r rs, k => by
    have k' : cmpD d = true ∧ cmpDs ds = true := by simpa [cmpDs] using k
    exact .cons (r.dp k'.1) (rs.dp k'.2)
end
mutual
theorem RepO.dp : ∀ {v : V} {s : Sl} {as : List Addr} {d : D}, RepO g Z M H v s as → frSl s = some d → cmpD d = true → L2.Dp g.K H v (py d)
  | _, _, _, _, .v r, e, k => by
    rw [frSl] at e; cases e; exact r.dp k
  | _, _, _, _, .l h r, e, k => by
    rw [frSl] at e; cases e; exact .lst (.inl (.inl h)) (r.dp (by simpa [cmpD] using k))
  | _, .t ss, _, _, .t h r, e, k => by
    rw [frSl] at e
    cases q : frSls ss with
    | none => rw [q] at e; cases e
    | some ds => rw [q] at e; cases e; exact .tup h (r.dp q (by simpa [cmpD] using k))
  | _, _, _, _, .o _ _ _ _ _, e, _ => by rw [frSl] at e; cases e
  | _, .ll ss, _, _, .ll h r, e, k => by
    rw [frSl] at e
    cases q : frSls ss with
    | none => rw [q] at e; cases e
    | some ds => rw [q] at e; cases e; exact .lst (.inl (.inl h)) (r.dp q (by simpa [cmpD] using k))
theorem RepOs.dp : ∀ {vs : List V} {ss : List Sl} {as : List Addr} {ds : List D}, RepOs g Z M H vs ss as → frSls ss = some ds → cmpDs ds = true → L2.DpAll g.K H vs (pys ds)
  | _, _, _, _, .nil, e, _ => by rw [frSls] at e; cases e; exact .nil
  | _, s :: ss, _, _, .cons r rs, e, k => by
    rw [frSls] at e
    cases q : frSl s with
    | none => rw [q] at e; cases e
    | some d =>
      cases q2 : frSls ss with
      | none => rw [q, q2] at e; cases e
      | some ds =>
        rw [q, q2] at e; cases e
        have k' : cmpD d = true ∧ cmpDs ds = true := by simpa [cmpDs] using k
        exact .cons (r.dp q k'.1) (rs.dp q2 k'.2)
end
end
/-- as data, however it is held -/
def asD : EV → Option D
  | .v d => some d
  | .b ds => some (.lst false ds)
  | .m s => frSl s
  | .p _ => none
section
variable {X : Cx} {c : Fr} {W : WX} {p p1 p2 : Bool} {M M' M2 : Addr → Prop} {T T' as as1 as2 : List Addr} {σ : L2.St} {H H' H2 : Hp} {ρ ρ' ρ2 : Rho}
theorem VR.dp {v : V} {x : EV} {d : D} (r : VR c M H v x as) (e : asD x = some d) (k : cmpD d = true) : L2.Dp c.g.K H v (py d) := by
  cases r with
  | v r => cases e; exact r.dp k
  | b l r => cases e; exact .lst (.inl (.inl l)) (r.dp (by simpa [cmpD] using k))
  | m r => exact r.dp e k
def rEqP (K : PySem.W.Frag) (neg : Bool) : L2.R2 := fun x y H Q => ∃ d e, L2.Dp K H x d ∧ L2.Dp K H y e ∧ d.plain = true ∧ e.plain = true ∧ min d.depth e.depth ≤ 100 ∧ Q (.bl (if neg then !PyData.eqv d e else PyData.eqv d e)) H
theorem op_eqP (hu : X.A.units + 128 < cLine) : OpR X (compareOp .Eq) (rEqP X.K false) := by
  intro pins s σ H x y v u Q I rx ry h
  obtain ⟨d, e, hd, he, sd, se, hm, q⟩ := h
  obtain ⟨as, r1⟩ := L2.Dp.reads I d x v hd rx
  obtain ⟨bs, r2⟩ := L2.Dp.reads I e y u he ry
  exact SeqAt.eq_plain r1 r2 sd se (by omega) ⟨.bl _, H, I, rfl, q⟩
theorem op_neP (hu : X.A.units + 128 < cLine) : OpR X (compareOp .NotEq) (rEqP X.K true) := by
  intro pins s σ H x y v u Q I rx ry h
  obtain ⟨d, e, hd, he, sd, se, hm, q⟩ := h
  obtain ⟨as, r1⟩ := L2.Dp.reads I d x v hd rx
  obtain ⟨bs, r2⟩ := L2.Dp.reads I e y u he ry
  exact SeqAt.ne_plain r1 r2 sd se (by omega) ⟨.bl _, H, I, rfl, q⟩
def eqR (neg : Bool) : BR := fun x y K _ ρ => match asD x, asD y with
  | some a, some b => (cmpD a = true ∧ cmpD b = true ∧ min (depD a) (depD b) ≤ 100) ∧ K (.v (.bl (if neg then !eqD a b else eqD a b))) ρ
  | _, _ => False
theorem eqR_mono {neg : Bool} : MonoR (eqR neg) := fun x y ρ K K' E E' hk _ h => by
  unfold eqR at h ⊢
  split at h
  · exact ⟨h.1, hk _ _ h.2⟩
  · exact h
theorem eqR_says {neg : Bool} (hK : X.K = c.g.K) : Says c (rEqP X.K neg) (eqR neg) := by
  intro p σ M T H M2 H2 ρ2 as1 as2 v u x y Q E q r1 r2 h
  unfold eqR at h
  split at h
  · rename_i a b ea eb
    obtain ⟨⟨ca, cb, dp⟩, k⟩ := h
    refine ⟨py a, py b, hK ▸ r1.dp ea ca, hK ▸ r2.dp eb cb, py_plain a, py_plain b, by rw [py_depth, py_depth]; exact dp, ?_⟩
    rw [py_eqv a b ca cb]
    exact k _ H2 M2 [] q.drop.drop (.v (.bl _))
  · exact h.elim
section
variable {a b : Expr} {f g : ES} {pos : Pos}
theorem ej_eq (hK : X.K = c.g.K) (hu : X.A.units + 128 < cLine) (ha : EJ X c W p1 a f) (hb : EJ X c W p2 b g) : EJ X c W (p1 && p2) (.Compare a [.Eq] [b] pos) (bin p2 f g (eqR false)) := ej_cmp (op_eqP hu) eqR_mono (eqR_says hK) (L2.nomark _) ha hb
theorem tj_eq (hK : X.K = c.g.K) (hu : X.A.units + 128 < cLine) (ha : EJ X c W p1 a f) (hb : EJ X c W p2 b g) : TJ X c W (p1 && p2) (.Compare a [.Eq] [b] pos) (bT (bin p2 f g (eqR false))) := tj_cmp (op_eqP hu) eqR_mono (eqR_says hK) (L2.nomark _) ha hb
theorem tj_ne (hK : X.K = c.g.K) (hu : X.A.units + 128 < cLine) (ha : EJ X c W p1 a f) (hb : EJ X c W p2 b g) : TJ X c W (p1 && p2) (.Compare a [.NotEq] [b] pos) (bT (bin p2 f g (eqR true))) := tj_cmp (op_neP hu) eqR_mono (eqR_says hK) (L2.nomark _) ha hb
end
/-! is None -/
def isNon : EV → Bool
  | .v .non => true
  | .m (.v .non) => true
  | _ => false
theorem VR.isNon {v : V} {x : EV} (r : VR c M H v x as) : decide (v = .non) = VS.isNon x := by
  cases r with
  | v r => cases r <;> simp [VS.isNon]
  | b l r => simp [VS.isNon]
  | m r =>
    cases r with
    | v r => cases r <;> simp [VS.isNon]
    | _ => simp [VS.isNon]
end
end VS
set_option Elab.async false
set_option linter.all false
set_option maxRecDepth 100000
set_option maxHeartbeats 4000000
/-! VS5: subscripts, built-in calls, calls of defs. Own work. -/
namespace VS
open PySem PySem.Spec PyProof.Rows
open L2 (V Hp HO upd SqL SqT Rd Cx TE TT TA TS VK XK WX PE PT PA PS PSs OpR RelV CallR Sp FnOk atI)
section
variable {X : Cx} {c : Fr} {W : WX} {p p1 p2 : Bool} {M M' M2 : Addr → Prop} {T T' as as1 as2 : List Addr} {σ : L2.St} {H H' H2 : Hp} {ρ ρ' ρ2 : Rho}
/-! is None -/
def isNR (neg : Bool) : BR := fun x y K _ ρ => match y with
  | .v .non => K (.v (.bl (if neg then !isNon x else isNon x))) ρ
  | _ => False
theorem isNR_mono {neg : Bool} : MonoR (isNR neg) := fun x y ρ K K' E E' hk _ h => by
  unfold isNR at h ⊢
  split at h
  · exact hk _ _ h
  · exact h
theorem VR.nn {v : V} (r : VR c M H v (.v .non) as) : v = .non := by
  cases r with
  | v r => cases r; rfl
theorem isN_says : Says c (fun x y H Q => y = .non ∧ Q (.bl (decide (x = .non))) H) (isNR false) := by
  intro p σ M T H M2 H2 ρ2 as1 as2 v u x y Q E q r1 r2 h
  unfold isNR at h
  split at h
  · refine ⟨r2.nn, ?_⟩
    rw [r1.isNon]
    exact h _ H2 M2 [] q.drop.drop (.v (.bl _))
  · exact h.elim
theorem notN_says : Says c (fun x y H Q => y = .non ∧ Q (.bl (!decide (x = .non))) H) (isNR true) := by
  intro p σ M T H M2 H2 ρ2 as1 as2 v u x y Q E q r1 r2 h
  unfold isNR at h
  split at h
  · refine ⟨r2.nn, ?_⟩
    rw [r1.isNon]
    exact h _ H2 M2 [] q.drop.drop (.v (.bl _))
  · exact h.elim
section
variable {a b : Expr} {f g : ES} {pos : Pos}
theorem tj_is (ha : EJ X c W p1 a f) (hb : EJ X c W p2 b g) : TJ X c W (p1 && p2) (.Compare a [.Is] [b] pos) (bT (bin p2 f g (isNR false))) := tj_cmp L2.op_isN isNR_mono isN_says (L2.nomark _) ha hb
theorem tj_isnot (ha : EJ X c W p1 a f) (hb : EJ X c W p2 b g) : TJ X c W (p1 && p2) (.Compare a [.IsNot] [b] pos) (bT (bin p2 f g (isNR true))) := tj_cmp L2.op_notN isNR_mono notN_says (L2.nomark _) ha hb
end
/-! a op1 b op2 c of ints -/
def chainE (p2 p3 : Bool) (R R' : Int → Int → Bool) (f g h : ES) : ES := fun ρ K E => f ρ (fun x ρ1 => g ρ1 (fun y ρ2 => match x, y with
  | .v (.int i), .v (.int j) => if R i j = true then h ρ2 (fun z ρ3 => match z with
    | .v (.int k) => K (.v (.bl (R' j k))) ρ3
    | _ => False) E else K (.v (.bl false)) ρ2
  | _, _ => False) E) E
theorem ej_chain {op op' : CmpOp} {R R' : Int → Int → Bool} {a b d : Expr} {f g h : ES} {p3 : Bool} {pos : Pos} (ho : OpR X (compareOp op) (L2.rI0 fun i j => .bl (R i j))) (ho' : OpR X (compareOp op') (L2.rI0 fun i j => .bl (R' i j)))
    (ha : EJ X c W p1 a f) (hb : EJ X c W p2 b g) (hd : EJ X c W p3 d h) (hm : lastMarks [op, op'] [b, d] = false := by with_unfolding_all rfl) : EJ X c W (p1 && p2 && p3) (.Compare a [op, op'] [b, d] pos) (chainE p2 p3 R R' f g h) ∧
    PT X (.Compare a [op, op'] [b, d] pos) (L2.tTest (rdE c W (p1 && p2 && p3) (chainE p2 p3 R R' f g h))) := by
  have mono : Mono (chainE p2 p3 R R' f g h) := fun ρ K K' E E' hk he q => ha.mono _ _ _ _ _ (fun x ρ1 q => hb.mono _ _ _ _ _ (fun y ρ2 q => by
    split at q
    · split at q
      · rename_i hb; rw [if_pos hb]
        exact hd.mono _ _ _ _ _ (fun z ρ3 q => by
          split at q
          · exact hk _ _ q
          · exact q) he q
      · rename_i hb; rw [if_neg hb]; exact hk _ _ q
    · exact q) he q) he q
  have core : ∀ σ H Q, rdE c W (p1 && p2 && p3) (chainE p2 p3 R R' f g h) σ H Q → L2.tChain (L2.rI0 fun i j => .bl (R i j)) (L2.rI0 fun i j => .bl (R' i j)) (rdE c W p1 f) (rdE c W p2 g) (rdE c W p3 h) σ H Q := by
    rintro σ H Q ⟨ρ, M, T, s, q⟩
    refine ⟨ρ, M, T, s, ha.mono _ _ _ _ _ (fun x ρ1 q v H1 M1 as1 q1 r1 => ?_) (fun _ _ h => h) q⟩
    have ht : ∀ x ∈ T, x ∈ as1 ++ T := fun x hx => List.mem_append_right _ hx
    refine ⟨ρ1, M1, as1 ++ T, q1.sr, hb.mono _ _ _ _ _ (fun y ρ2 q u H2 M2 as2 q2 r2 => ?_) (fun x ρ2 h cls dd H2 M2 q2 r2 => h cls dd H2 M2 (q1.trans q2 ht).weak.drop r2) q⟩
    split at q
    · rename_i i j
      cases r1 with
      | v r1 =>
      cases r1
      cases r2 with
      | v r2 =>
      cases r2
      have q12 := q1.trans q2 (fun x hx => hx)
      refine ⟨_, _, rfl, rfl, _, rfl, ?_⟩
      split at q
      · rename_i hR
        rw [hR, if_pos rfl]
        refine ⟨ρ2, M2, T, q12.sr, hd.mono _ _ _ _ _ (fun z ρ3 q w H3 M3 as3 q3 r3 => ?_) (fun x ρ3 h cls dd H3 M3 q3 r3 => h cls dd H3 M3 (q12.trans q3 fun _ z => z).weak r3) q⟩
        split at q
        · rename_i k
          cases r3 with
          | v r3 =>
          cases r3
          exact ⟨_, _, rfl, rfl, q _ H3 M3 [] (q12.trans q3 fun _ z => z) (.v (.bl _))⟩
        · exact q.elim
      · rename_i hR
        have e := Bool.eq_false_iff.mpr hR
        rw [e, if_neg Bool.false_ne_true]
        exact q _ H2 M2 [] q12.left (.v (.bl _))
    · exact q.elim
  exact ⟨⟨mono, PE.imp (L2.pe_chain ho ho' ha.run hb.run hd.run hm) core⟩, PT.imp (L2.pt_chain ho ho' ha.run hb.run hd.run hm) fun σ H Q q => core σ H _ q⟩
theorem tj_chain {op op' : CmpOp} {R R' : Int → Int → Bool} {a b d : Expr} {f g h : ES} {p3 : Bool} {pos : Pos} (ho : OpR X (compareOp op) (L2.rI0 fun i j => .bl (R i j))) (ho' : OpR X (compareOp op') (L2.rI0 fun i j => .bl (R' i j)))
    (ha : EJ X c W p1 a f) (hb : EJ X c W p2 b g) (hd : EJ X c W p3 d h) (hm : lastMarks [op, op'] [b, d] = false := by with_unfolding_all rfl) : TJ X c W (p1 && p2 && p3) (.Compare a [op, op'] [b, d] pos) (bT (chainE p2 p3 R R' f g h)) :=
  tj_of (ej_chain ho ho' ha hb hd hm).1 fun _ => (ej_chain ho ho' ha hb hd hm).2
/-! and, or, not as values -/
def tvE (f : BS) : ES := fun ρ K E => f ρ (fun b ρ' => K (.v (.bl b)) ρ') E
def andV (f g : ES) : ES := fun ρ K E => f ρ (fun x ρ1 => match x with
  | .v (.bl b) => if b = true then g ρ1 K E else K (.v (.bl false)) ρ1
  | _ => False) E
def orV (f g : ES) : ES := fun ρ K E => f ρ (fun x ρ1 => match x with
  | .v (.bl b) => if b = true then K (.v (.bl true)) ρ1 else g ρ1 K E
  | _ => False) E
def notV (f : ES) : ES := fun ρ K E => f ρ (fun x ρ1 => match x with
  | .v (.bl b) => K (.v (.bl (!b))) ρ1
  | _ => False) E
section
variable {a b : Expr} {f g : ES} {pos : Pos}
theorem ej_one {op} (h : EJ X c W p a f) : EJ X c W p (.BoolOp op [a] pos) f := ⟨h.mono, L2.pe_one h.run⟩
theorem ej_not (h : EJ X c W p a f) : EJ X c W p (.UnaryOp .Not a pos) (notV f) := by
  refine ⟨fun ρ K K' E E' hk he q => h.mono _ _ _ _ _ (fun x ρ1 q => by
    split at q
    · exact hk _ _ q
    · exact q) he q, PE.imp (L2.pe_not h.run) ?_⟩
  rintro σ H Q ⟨ρ, M, T, s, q⟩
  refine ⟨ρ, M, T, s, h.mono _ _ _ _ _ (fun x ρ1 q v H1 M1 as1 q1 r1 => ?_) (fun _ _ h => h) q⟩
  split at q
  · exact ⟨_, r1.bl, q _ H1 M1 [] q1.drop (.v (.bl _))⟩
  · exact q.elim
theorem ej_and {rest : List Expr} (ha : EJ X c W p1 a f) (hb : EJ X c W p2 (.BoolOp .And (b :: rest) pos) g) : EJ X c W (p1 && p2) (.BoolOp .And (a :: b :: rest) pos) (andV f g) := by
  refine ⟨fun ρ K K' E E' hk he q => ha.mono _ _ _ _ _ (fun x ρ1 q => by
    split at q
    · split at q
      · rename_i hb'; rw [if_pos hb']; exact hb.mono _ _ _ _ _ hk he q
      · rename_i hb'; rw [if_neg hb']; exact hk _ _ q
    · exact q) he q, PE.imp (L2.pe_and ha.run hb.run) ?_⟩
  rintro σ H Q ⟨ρ, M, T, s, q⟩
  refine ⟨ρ, M, T, s, ha.mono _ _ _ _ _ (fun x ρ1 q v H1 M1 as1 q1 r1 => ?_) (fun _ _ h => h) q⟩
  split at q
  · rename_i b'
    refine ⟨b', r1.bl, ?_⟩
    cases b' with
    | true =>
      refine ⟨ρ1, M1, T, q1.drop.sr, hb.mono _ _ _ _ _ (fun y ρ2 q u H2 M2 as2 q2 r2 => q u H2 M2 as2 (q1.drop.trans q2 fun _ z => z) r2) (fun x ρ2 h cls dd H2 M2 q2 r2 => h cls dd H2 M2 (q1.drop.trans q2 fun _ z => z).weak r2) q⟩
    | false => exact q _ H1 M1 [] q1.drop.left (.v (.bl _))
  · exact q.elim
/-- a if t else b -/
def ifE (t : BS) (f g : ES) : ES := fun ρ K E => t ρ (fun b ρ1 => if b = true then f ρ1 K E else g ρ1 K E) E
end
/-! x[i] -/
theorem ixN_of {α : Type} {n : Nat} {xs : List α} {i : Int} {v : α} (h : atI xs i = some v) : ∃ j, L2.ixN xs.length i = some j ∧ xs[j]? = some v := by
  unfold L2.atI at h
  cases e : L2.ixN xs.length i with
  | none => rw [e] at h; cases h
  | some j => rw [e] at h; exact ⟨j, rfl, h⟩
theorem atI_reps {g : Ge} {Z : Addr → Prop} {vs : List V} {ds : List D} {i : Int} {d : D} (r : Reps g Z M H vs ds) (h : atI ds i = some d) : ∃ v, atI vs i = some v ∧ Rep g Z M H v d := by
  obtain ⟨j, h1, h2⟩ := ixN_of (n := 0) h
  obtain ⟨v, h3, h4⟩ := r.get h2
  refine ⟨v, ?_, h4⟩
  unfold L2.atI
  rw [r.length, h1]; exact h3
theorem RepOs.get' {g : Ge} {Z : Addr → Prop} : ∀ {vs : List V} {ss : List Sl} {as : List Addr} {j : Nat} {s : Sl}, RepOs g Z M H vs ss as → ss[j]? = some s → ∃ v bs, vs[j]? = some v ∧ RepO g Z M H v s bs ∧ bs.Sublist as
  | _, _, _, _, _, .nil, e => by simp at e
  | _, _, _, 0, _, .cons r _, e => by simp at e; subst e; exact ⟨_, _, rfl, r, List.sublist_append_left _ _⟩
  | _, _, _, j + 1, s, .cons _ rs, e => by
    obtain ⟨v, bs, h1, h2, h3⟩ := rs.get' (j := j) (s := s) (by simpa using e)
    exact ⟨v, bs, by simpa using h1, h2, h3.trans (List.sublist_append_right _ _)⟩
theorem RepOs.length {g : Ge} {Z : Addr → Prop} : ∀ {vs : List V} {ss : List Sl} {as : List Addr}, RepOs g Z M H vs ss as → vs.length = ss.length
  | _, _, _, .nil => rfl
  | _, _, _, .cons _ rs => by rw [List.length_cons, List.length_cons, rs.length]
/-- an owned thing yielded -/
def slEV : Sl → Option EV
  | .no => none
  | .v d => some (.v d)
  | s => some (.m s)
theorem RepO.ev {v : V} {s : Sl} {bs : List Addr} {x : EV} (r : RepO c.g c.Z M H v s bs) (e : slEV s = some x) : VR c M H v x bs := by
  cases r with
  | v r => cases e; exact .v r
  | l h r => cases e; exact .m (.l h r)
  | t h r => cases e; exact .m (.t h r)
  | o h n a b r => cases e; exact .m (.o h n a b r)
  | ll h r => cases e; exact .m (.ll h r)
theorem Post.sub {bs : List Addr} (q : Post c p σ M T H M' (as ++ T) H' ρ') (h : bs.Sublist as) : Post c p σ M T H M' (bs ++ T) H' ρ' := by
  obtain ⟨Ms, r, nd, al⟩ := q.sr.slots
  have hs : (Ms ++ (bs ++ T)).Sublist (Ms ++ (as ++ T)) := List.Sublist.append (List.Sublist.refl _) (List.Sublist.append h (List.Sublist.refl _))
  exact ⟨⟨⟨Ms, r, nd.sublist hs, fun a ha => al a (hs.subset ha)⟩, q.sr.ty, q.sr.src, q.sr.keep, q.sr.pin, q.sr.ln⟩, q.keep, q.new, q.pu⟩
def ixR : BR := fun x y K _ ρ => match y with
  | .v (.int i) => (match x with
    | .v (.str z) => z.length ≤ sizeLine ∧ (match atI z.cps.toList i with
      | some ch => K (.v (.str ⟨#[ch]⟩)) ρ
      | none => False)
    | .m (.t ss) => (match (atI ss i).bind slEV with
      | some ev => K ev ρ
      | none => False)
    | x => (match asT x with
      | some ds => (match atI ds i with
        | some d => K (.v d) ρ
        | none => False)
      | none => (match asL x with
        | some ds => (match atI ds i with
          | some d => K (.v d) ρ
          | none => False)
        | none => False)))
  | _ => False
theorem ixR_mono : MonoR ixR := fun x y ρ K K' E E' hk _ h => by
  unfold ixR at h ⊢
  split at h
  · split at h
    · refine ⟨h.1, ?_⟩
      have h2 := h.2
      split at h2
      · exact hk _ _ h2
      · exact h2
    · split at h
      · exact hk _ _ h
      · exact h
    · split at h
      · split at h
        · exact hk _ _ h
        · exact h
      · split at h
        · split at h
          · exact hk _ _ h
          · exact h
        · exact h
  · exact h
theorem ixR_says (hK : X.K = c.g.K) : Says c (L2.rIx X.K) ixR := by
  intro p σ M T H M2 H2 ρ2 as1 as2 v u x y Q E q r1 r2 h
  unfold ixR at h
  split at h
  · rename_i i
    have eu := r2.int
    split at h
    · rename_i z
      have h2 := h.2
      split at h2
      · rename_i ch e
        exact .inr (.inr ⟨z, i, ch, r1.str, eu, h.1, e, h2 _ H2 M2 [] q.drop.drop (.v (.str _))⟩)
      · exact h2.elim
    · rename_i ss
      split at h
      · rename_i ev e
        cases r1 with
        | m r1 =>
        cases r1 with
        | t ht r1 =>
        rename_i a vs
        cases e2 : atI ss i with
        | none => rw [e2] at e; cases e
        | some s =>
          rw [e2] at e
          obtain ⟨j, j1, j2⟩ := ixN_of (n := 0) e2
          obtain ⟨w, bs, w1, w2, w3⟩ := r1.get' j2
          have ew : atI vs i = some w := by unfold L2.atI; rw [r1.length, j1]; exact w1
          exact .inr (.inl ⟨a, vs, i, w, rfl, eu, hK ▸ ht, ew, h w H2 M2 bs (q.drop.sub w3) (w2.ev e)⟩)
      · exact h.elim
    · split at h
      · rename_i ds e
        obtain ⟨a, vs, ev, t, rs⟩ := r1.tuple e
        split at h
        · rename_i d ed
          obtain ⟨w, w1, w2⟩ := atI_reps rs ed
          exact .inr (.inl ⟨a, vs, i, w, ev, eu, hK ▸ t, w1, h w H2 M2 [] q.drop.drop (.v w2)⟩)
        · exact h.elim
      · split at h
        · rename_i ds e
          obtain ⟨a, vs, ev, t, rs⟩ := r1.list e
          split at h
          · rename_i d ed
            obtain ⟨w, w1, w2⟩ := atI_reps rs ed
            exact .inl ⟨a, vs, i, w, ev, eu, hK ▸ t, w1, h w H2 M2 [] q.drop.drop (.v w2)⟩
          · exact h.elim
        · exact h.elim
  · exact h.elim
theorem ej_ix {a b : Expr} {f g : ES} {pos : Pos} (hK : X.K = c.g.K) (hs : L2.PlainIx b) (ha : EJ X c W p1 a f) (hb : EJ X c W p2 b g) : EJ X c W (p1 && p2) (.Subscript a b pos) (bin p2 f g ixR) :=
  ej_bin ha hb (fun h1 h2 => L2.pe_ix L2.ix_seq h1 h2 hs) ixR_mono fun σ M T H M2 H2 ρ2 as1 as2 v u x y Q E => ixR_says hK (p1 && p2) σ M T H M2 H2 ρ2 as1 as2 v u x y Q E
end
/-! ### built-in calls by values -/
abbrev CR := List EV → (EV → Rho → Prop) → (Exc → Rho → Prop) → Rho → Prop
def MonoC (R : CR) : Prop := ∀ xs ρ K K' E E', (∀ x ρ', K x ρ' → K' x ρ') → (∀ x ρ', E x ρ' → E' x ρ') → R xs K E ρ → R xs K' E' ρ
def SaysC (c : Fr) (r : List V → Hp → VK → Prop) (R : CR) : Prop := ∀ (p : Bool) σ M T H M2 H2 ρ2 as vs xs Q E, Post c p σ M T H M2 (as ++ T) H2 ρ2 → VRs c M2 H2 vs xs as →
  R xs (fun ev ρ' => ∀ v H' M' as, Post c p σ M T H M' (as ++ T) H' ρ' → VR c M' H' v ev as → Q v H') E ρ2 → r vs H2 Q
def callV (R : CR) (g : AS) : ES := fun ρ K E => g ρ (fun xs ρ' => R xs K E ρ') E
section
variable {X : Cx} {c : Fr} {W : WX} {p p1 p2 : Bool} {e : Expr} {es : List Expr} {g : AS} {R : CR} {r : List V → Hp → VK → Prop} {x : Str} {ps pos : Pos}
theorem callV_run (ha : AJ X c W p (e :: es) g) (hR : SaysC c r R) : ∀ σ H Q, rdE c W p (callV R g) σ H Q → L2.tCB r (rdA c W p g) σ H Q := by
  rintro σ H Q ⟨ρ, M, T, s, h⟩
  exact ⟨ρ, M, T, s, ha.mono _ _ _ _ _ (fun xs ρ' k vs H' M' as q rs => hR p σ M T H M' H' ρ' as vs xs Q _ q rs k) (fun _ _ h => h) h⟩
theorem ej_callB {id : String} (hc : CallR X (.builtin id) r) (hM : MonoC R) (hR : SaysC c r R) (hg : L2.Gl X x) (hm : X.mg x = none) (hv : bootBuiltins x = some (.builtin id)) (ha : AJ X c W p (e :: es) g) (hn : x ≠ "__name__" := by decide) (hdb : (x == ("__debug__" : Str)) = false := by decide)
    (he : starEach (e :: es) X.env = (false, eval e X.env) :: starEach es X.env := by rfl) (hpl : (backTo pos (starEach es X.env)).any (·.1) = false := by rfl) : EJ X c W p (.Call (.Name x ps) (e :: es) [] pos) (callV R g) :=
  ⟨fun ρ K K' E E' hk hx q => ha.mono _ _ _ _ _ (fun xs ρ' q => hM _ _ _ _ _ _ hk hx q) hx q, PE.imp (L2.pe_callB hc hg hm hv ha.run hn hdb he hpl) (callV_run ha hR)⟩
end
section
variable {X : Cx} {c : Fr} {W : WX} {M : Addr → Prop} {H : Hp} {as : List Addr}
theorem VRs.one {vs : List V} {x : EV} (r : VRs c M H vs [x] as) : ∃ v, vs = [v] ∧ VR c M H v x as := by
  cases r with
  | cons r rs => cases rs; exact ⟨_, rfl, by simpa using r⟩
theorem VRs.two {vs : List V} {x y : EV} (r : VRs c M H vs [x, y] as) : ∃ v u as1 as2, vs = [v, u] ∧ VR c M H v x as1 ∧ VR c M H u y as2 ∧ as = as2 ++ as1 := by
  cases r with
  | cons r rs =>
    obtain ⟨u, rfl, r2⟩ := rs.one
    exact ⟨_, _, _, _, rfl, r, r2, rfl⟩
/-! len -/
def lenC : CR := fun xs K _ ρ => match xs with
  | [.v (.str z)] => z.length ≤ sizeLine ∧ K (.v (.int z.length)) ρ
  | [x] => (match asT x with
    | some ds => K (.v (.int ds.length)) ρ
    | none => (match asL x with
      | some ds => K (.v (.int ds.length)) ρ
      | none => (match x with
        | .m (.t ss) => K (.v (.int ss.length)) ρ
        | _ => False)))
  | _ => False
theorem lenC_mono : MonoC lenC := fun xs ρ K K' E E' hk _ h => by
  unfold lenC at h ⊢
  split at h
  · exact ⟨h.1, hk _ _ h.2⟩
  · split at h
    · exact hk _ _ h
    · split at h
      · exact hk _ _ h
      · split at h
        · exact hk _ _ h
        · exact h
  · exact h
theorem lenC_says (hK : X.K = c.g.K) : SaysC c (fun xs H Q => ∃ x n, xs = [x] ∧ L2.LenV X.K x H n ∧ Q (.int n) H) lenC := by
  intro p σ M T H M2 H2 ρ2 as vs xs Q E q r h
  unfold lenC at h
  split at h
  · obtain ⟨v, rfl, r1⟩ := r.one
    have e := r1.str
    subst e
    exact ⟨_, _, rfl, ⟨h.1, rfl⟩, h.2 _ H2 M2 [] q.drop (.v (.int _))⟩
  · obtain ⟨v, rfl, r1⟩ := r.one
    split at h
    · rename_i ds e
      obtain ⟨a, vs, rfl, t, rs⟩ := r1.tuple e
      refine ⟨_, _, rfl, .inr ⟨vs, hK ▸ t, rfl⟩, ?_⟩
      rw [rs.length]
      exact h _ H2 M2 [] q.drop (.v (.int _))
    · split at h
      · rename_i ds e
        obtain ⟨a, vs, rfl, t, rs⟩ := r1.list e
        refine ⟨_, _, rfl, .inl ⟨vs, hK ▸ t, rfl⟩, ?_⟩
        rw [rs.length]
        exact h _ H2 M2 [] q.drop (.v (.int _))
      · split at h
        · cases r1 with
          | m r1 =>
          cases r1 with
          | t ht rs =>
          refine ⟨_, _, rfl, .inr ⟨_, hK ▸ ht, rfl⟩, ?_⟩
          rw [rs.length]
          exact h _ H2 M2 [] q.drop (.v (.int _))
        · exact h.elim
  · exact h.elim
/-! isinstance of data, one built-in class -/
def tyN : D → Option String
  | .non => some "NoneType"
  | .bl _ => some "bool"
  | .int _ => some "int"
  | .str _ => some "str"
  | .tup _ => some "tuple"
  | .lst _ _ => some "list"
  | .dct _ _ => some "dict"
  | .ty _ => none
  | .fn _ => none
theorem Rep.tyx {g : Ge} {Z : Addr → Prop} {v : V} {d : D} {n : String} (r : Rep g Z M H v d) (e : tyN d = some n) : L2.TyX g.K H v (.type n) := by
  cases r with
  | non => cases e; exact .base .non
  | bl b => cases e; exact .base (.bl b)
  | int i => cases e; exact .base (.int i)
  | str s => cases e; exact .base (.str s)
  | ty _ => cases e
  | fn _ => cases e
  | tup h r =>
    cases e
    rcases h with (h | ⟨o, h⟩) | ⟨o, its, n, h1, h2, _⟩
    · exact .base (.tup h)
    · exact .fTuple h
    · exact .kTuple h1 h2
  | lst h r =>
    cases e
    rcases h with ⟨h, _⟩ | ⟨o, h⟩ | ⟨o, its, n, h1, h2, _⟩
    · exact .base (.lst h)
    · exact .base (.frz h)
    · exact .kList h1 h2
  | dct h _ _ _ => cases e; exact .base (.dK h)
def isiC (kb : String → String → Option Bool) : CR := fun xs K _ ρ => match xs with
  | [x, .v (.ty T)] => (match (asD x).bind tyN with
    | some n => (match kb n T with
      | some b => K (.v (.bl b)) ρ
      | none => False)
    | none => False)
  | _ => False
theorem isiC_mono {kb : String → String → Option Bool} : MonoC (isiC kb) := fun xs ρ K K' E E' hk _ h => by
  unfold isiC at h ⊢
  split at h
  · split at h
    · split at h
      · exact hk _ _ h
      · exact h
    · exact h
  · exact h
theorem VR.ty {v : V} {x : EV} {d : D} {n : String} (r : VR c M H v x as) (e : asD x = some d) (k : tyN d = some n) : L2.TyX c.g.K H v (.type n) := by
  cases r with
  | v r => cases e; exact r.tyx k
  | b l r =>
    cases e; cases k
    exact .base (.lst l)
  | m r =>
    cases r with
    | v r => rw [asD, frSl] at e; cases e; exact r.tyx k
    | l h r => rw [asD, frSl] at e; cases e; cases k; exact .base (.lst h)
    | @t a vs ss as h r =>
      rw [asD, frSl] at e
      cases q : frSls ss with
      | none => rw [q] at e; cases e
      | some ds =>
        rw [q] at e; cases e; cases k
        rcases h with (h | ⟨o, h⟩) | ⟨o, its, n, h1, h2, _⟩
        · exact .base (.tup h)
        · exact .fTuple h
        · exact .kTuple h1 h2
    | o _ _ _ _ _ => rw [asD, frSl] at e; cases e
    | @ll a vs ss as h r =>
      rw [asD, frSl] at e
      cases q : frSls ss with
      | none => rw [q] at e; cases e
      | some ds => rw [q] at e; cases e; cases k; exact .base (.lst h)
theorem isiC_says (hK : X.K = c.g.K) {kb : String → String → Option Bool} (hkb : ∀ a b r, kb a b = some r → L2.kitB a b = some r) : SaysC c (L2.rIsi X.K) (isiC kb) := by
  intro p σ M T H M2 H2 ρ2 as vs xs Q E q r h
  unfold isiC at h
  split at h
  · rename_i x T'
    obtain ⟨v, u, as1, as2, rfl, r1, r2, rfl⟩ := r.two
    cases r2 with
    | v r2 =>
    cases r2
    split at h
    · rename_i n e
      split at h
      · rename_i b eb
        cases e1 : asD x with
        | none => rw [e1] at e; cases e
        | some d =>
          rw [e1] at e
          exact ⟨v, _, _, _, b, rfl, .ty _, hK ▸ r1.ty e1 e, L2.kit_ty (hkb _ _ _ eb), h _ H2 M2 [] q.drop (.v (.bl _))⟩
      · exact h.elim
    · exact h.elim
  · exact h.elim
/-- what the built-in kinds are of one another -/
def kb (a b : String) : Option Bool := match a, b with
  | "int", "int" => some true
  | "bool", "int" => some true
  | "str", "int" => some false
  | "NoneType", "int" => some false
  | "tuple", "int" => some false
  | "list", "int" => some false
  | "dict", "int" => some false
  | "int", "bool" => some false
  | "bool", "bool" => some true
  | "str", "bool" => some false
  | "NoneType", "bool" => some false
  | "tuple", "bool" => some false
  | "list", "bool" => some false
  | "dict", "bool" => some false
  | "int", "str" => some false
  | "bool", "str" => some false
  | "str", "str" => some true
  | "NoneType", "str" => some false
  | "tuple", "str" => some false
  | "list", "str" => some false
  | "dict", "str" => some false
  | "int", "tuple" => some false
  | "bool", "tuple" => some false
  | "str", "tuple" => some false
  | "NoneType", "tuple" => some false
  | "tuple", "tuple" => some true
  | "list", "tuple" => some false
  | "dict", "tuple" => some false
  | "int", "list" => some false
  | "bool", "list" => some false
  | "str", "list" => some false
  | "NoneType", "list" => some false
  | "tuple", "list" => some false
  | "list", "list" => some true
  | "dict", "list" => some false
  | _, _ => none
theorem kb_ok : ∀ a b r, kb a b = some r → L2.kitB a b = some r := by
  intro a b r h
  unfold kb at h
  split at h <;> first
    | (cases h; decide +kernel)
    | cases h
end
end VS
set_option Elab.async false
set_option linter.all false
set_option maxRecDepth 100000
set_option maxHeartbeats 4000000
/-! VS6: what a def promises, calls of defs that change nothing of what they are handed; statements. Own work. -/
namespace VS
open PySem PySem.Spec PyProof.Rows
open L2 (V Hp HO upd SqL SqT Rd Cx TE TT TA TS VK XK WX PE PT PA PS PSs OpR RelV CallR Sp FnOk atI)
def pick {α : Type} : List Bool → List α → List α
  | true :: m, x :: xs => x :: pick m xs
  | false :: m, _ :: xs => pick m xs
  | _, _ => []
def retEV : EV → Bool
  | .v d => retOk d
  | .m s => retSl s
  | _ => false
/-- what a def does: from its arguments, to what it yields and what became of those that it may change -/
abbrev FS := List Sl → (EV → List Sl → Prop) → (Exc → List Sl → Prop) → Prop
def MonoF (F : FS) : Prop := ∀ ss K K' E E', (∀ x ts, K x ts → K' x ts) → (∀ x ts, E x ts → E' x ts) → F ss K E → F ss K' E'
/-- behind a call; as: what was owned of the arguments, ias: what is, ras: what the yielded thing owns -/
structure CPost (g : Ge) (Z : Addr → Prop) (mask : List Bool) (vs : List V) (as : List Addr) (H H' : Hp) (ts : List Sl) (ias ras : List Addr) : Prop where
  keep : ∀ b o, H b = some o → b ∉ as → H' b = some o
  io : RepOs g Z (fun a => a ∈ ras ++ ias) H' (pick mask vs) ts ias
  nd : (ras ++ ias).Nodup
  new : ∀ a ∈ ras ++ ias, a ∈ as ∨ H a = none
  ret : retSls ts = true
def spV (g : Ge) (mask : List Bool) (F : FS) : Sp := fun vs H Q E => ∃ (Z : Addr → Prop) (ss : List Sl) (as : List Addr),
  (∀ a, Z a → H a ≠ none) ∧ (∀ a ∈ as, ¬ Z a) ∧ RepOs g Z (fun a => a ∈ as) H vs ss as ∧ as.Nodup ∧ ss.length = mask.length ∧
  F ss (fun x ts => ∀ v H' ras ias, CPost g Z mask vs as H H' ts ias ras → VRg g Z (fun a => a ∈ ras ++ ias) H' v x ras → retEV x = true → Q v H')
    (fun x ts => ∀ cls dd H' ias, CPost g Z mask vs as H H' ts ias [] → XRg g Z (fun a => a ∈ ias) H' cls dd x → retOks x.ds = true → E cls dd H')
/-! ### calls of defs that change nothing -/
def argD : EV → Option D
  | .v d => some d
  | .b ds => some (.lst false ds)
  | .m s => frSl s
  | .p _ => none
def argDs : List EV → Option (List D)
  | [] => some []
  | x :: xs => (argD x).bind fun d => (argDs xs).map (d :: ·)
def callP (F : FS) (dd : List D) (g : AS) : ES := fun ρ K E => g ρ (fun xs ρ1 => match argDs xs with
  | some ds => F ((ds ++ dd).map .v) (fun x _ => K x ρ1) (fun x _ => E x ρ1)
  | none => False) E
section
variable {X : Cx} {c : Fr} {W : WX} {p p1 p2 : Bool} {M M' M2 : Addr → Prop} {T T' as as1 as2 : List Addr} {σ : L2.St} {H H' H2 : Hp} {ρ ρ' ρ2 : Rho}
theorem SR.noZ (s : SR c M T σ H ρ) {a : Addr} (h : M a) : ¬ c.Z a := fun z => by
  rcases s.src a h with q | q
  · exact c.zi a q z
  · exact c.zd a z q
theorem VRs.argDs : ∀ {vs : List V} {xs : List EV} {as : List Addr} {ds : List D}, VRs c M H vs xs as → argDs xs = some ds → (∀ a ∈ as, ¬ c.Z a) →
    Reps c.g (fun a => c.Z a ∨ (M a ∧ a ∉ as)) (fun _ => False) H vs ds
  | _, _, _, _, .nil, e, _ => by rw [VS.argDs] at e; cases e; exact .nil
  | _, x :: xs, _, _, .cons (as := as1) (bs := as2) r rs, e, hz => by
    rw [VS.argDs] at e
    cases q : argD x with
    | none => rw [q] at e; cases e
    | some d =>
      cases q2 : VS.argDs xs with
      | none => rw [q, q2] at e; cases e
      | some ds =>
        rw [q, q2] at e; cases e
        have rs' := rs.argDs q2 (fun a h => hz a (List.mem_append_left _ h))
        refine .cons ?_ (rs'.re (fun _ _ z => z) fun a _ _ h k => h ?_)
        · cases r with
          | v r => cases q; exact r.re (fun _ _ _ z => z) fun a _ n z k => k.elim z fun y => n y.1
          | b l r =>
            cases q
            have r' : Reps c.g (fun a => c.Z a ∨ (M a ∧ a ∉ as2 ++ [])) (fun _ => False) H _ _ := r.re (fun _ _ _ z => z) fun a _ n z k => k.elim z fun y => n y.1
            exact .lst (.inl ⟨l, fun z => z, fun z => nomatch z⟩) r'
          | m r =>
            have r' : RepO c.g (fun a => c.Z a ∨ (M a ∧ a ∉ as2 ++ as1)) (fun _ => False) H _ _ as1 := r.re (fun _ _ _ z => z) fun a _ n z k => k.elim z fun y => n y.1
            exact r'.freeze q fun a ha => ⟨fun z => z, fun k => k.elim (hz a (List.mem_append_right _ ha)) fun y => y.2 (List.mem_append_right _ ha)⟩
        · rcases k with k | ⟨k1, k2⟩
          · exact .inl k
          · exact .inr ⟨k1, fun y => k2 (List.mem_append_left _ y)⟩
theorem repOs_v {g : Ge} {Z : Addr → Prop} : ∀ {vs : List V} {ds : List D}, Reps g Z M H vs ds → RepOs g Z M H vs (ds.map .v) []
  | _, _, .nil => .nil
  | _, _, .cons r rs => .cons (as := []) (bs := []) (.v r) (repOs_v rs)
theorem pick_no {α : Type} : ∀ {m : List Bool} {xs : List α}, (∀ b ∈ m, b = false) → pick m xs = []
  | [], _, _ => by unfold pick; rfl
  | true :: _, _, h => absurd (h true List.mem_cons_self) (by simp)
  | false :: m, [], _ => rfl
  | false :: m, _ :: xs, h => pick_no (xs := xs) fun b hb => h b (List.mem_cons_of_mem _ hb)
/-- behind a call that changed nothing: the temporaries of the arguments are nobody's -/
theorem Post.call {ras : List Addr} (q : Post c p σ M T H M' (as ++ T) H' ρ') (x : Ext H' H2) (nd : ras.Nodup) (new : ∀ a ∈ ras, H' a = none) (ty : ∀ a ∈ ras, Typed H2 a) :
    Post c p σ M T H (fun a => (M' a ∧ a ∉ as) ∨ a ∈ ras) (ras ++ T) H2 ρ' := by
  obtain ⟨Ms, r, ndM, al⟩ := q.sr.slots
  obtain ⟨n1, n2, n3⟩ := List.nodup_append.mp ndM
  obtain ⟨m1, m2, m3⟩ := List.nodup_append.mp n2
  have r1 : RepS c.g c.Z (fun a => M' a ∧ a ∉ as) H' σ ρ' Ms := r.re (fun _ _ n z => n z.1) fun _ _ _ z => z
  have mv : Moved (fun _ => False) (fun a => M' a ∧ a ∉ as) (fun a => (M' a ∧ a ∉ as) ∨ a ∈ ras) H' H2 := ⟨fun b o e _ => x b o e, fun _ h => h.elim, fun _ h => h.elim, fun a h => h.imp id (new a)⟩
  have tr : ∀ a, M' a → a ∉ ras := fun a h z => (q.sr.ty a h).ne (new a z)
  refine ⟨⟨⟨Ms, r1.moved mv fun _ _ z => z, ?_, fun a ha => ?_⟩, fun a ha => ?_, fun a ha => ?_, fun b o e h => x b o (q.sr.keep b o e h), q.sr.pin, q.sr.ln⟩, fun b o e h => x b o (q.keep b o e h), fun a ha => ?_, fun e => (q.pu e).trans x⟩
  · refine List.nodup_append.mpr ⟨n1, List.nodup_append.mpr ⟨nd, m2, fun a ha b hb e => tr b (al b (List.mem_append_right _ (List.mem_append_right _ hb))) (e ▸ ha)⟩, fun a ha b hb e => ?_⟩
    rcases List.mem_append.mp hb with hb | hb
    · exact tr a (al a (List.mem_append_left _ ha)) (e ▸ hb)
    · exact n3 a ha b (List.mem_append_right _ hb) e
  · rcases List.mem_append.mp ha with ha | ha
    · exact .inl ⟨al a (List.mem_append_left _ ha), fun z => n3 a ha a (List.mem_append_left _ z) rfl⟩
    · rcases List.mem_append.mp ha with ha | ha
      · exact .inr ha
      · exact .inl ⟨al a (List.mem_append_right _ (List.mem_append_right _ ha)), fun z => m3 a z a ha rfl⟩
  · rcases ha with ha | ha
    · rcases q.sr.ty a ha.1 with ⟨_, e⟩ | ⟨_, _, _, e⟩
      · exact .inl ⟨_, x _ _ e⟩
      · exact .inr ⟨_, _, _, x _ _ e⟩
    · exact ty a ha
  · rcases ha with ha | ha
    · exact q.sr.src a ha.1
    · by_cases z : a ∈ c.io
      · exact .inl z
      · refine .inr ?_
        cases e : c.H0 a with
        | none => rfl
        | some u => have := q.sr.keep a u e z; rw [new a ha] at this; cases this
  · rcases ha with ha | ha
    · exact q.new a ha.1
    · by_cases z : M a
      · exact .inl z
      · refine .inr ?_
        cases e : H a with
        | none => rfl
        | some u => have := q.keep a u e (fun y => absurd y z); rw [new a ha] at this; cases this
theorem VRg.back {g : Ge} {Z Z' : Addr → Prop} (hM : ∀ a, H a ≠ none → ¬ M a → ¬ Z a → ¬ M' a) (hZ : ∀ a, H a ≠ none → ¬ M a → ¬ Z a → ¬ Z' a) {v : V} {x : EV} {as : List Addr} (r : VRg g Z M H v x as) (k : retEV x = true) : VRg g Z' M' H v x as := by
  cases r with
  | v r => exact .v (r.back hM hZ k)
  | b _ _ => exact absurd k (by simp [retEV])
  | m r => exact .m (r.back hM hZ k)
theorem VRg.typed {g : Ge} {Z : Addr → Prop} {v : V} {x : EV} {as : List Addr} (r : VRg g Z M H v x as) : ∀ a ∈ as, Typed H a := by
  cases r with
  | v _ => exact fun a h => absurd h (by simp)
  | b _ _ => exact fun a h => absurd h (by simp)
  | m r => exact r.typed
theorem XRg.back {g : Ge} {Z Z' : Addr → Prop} (hM : ∀ a, H a ≠ none → ¬ M a → ¬ Z a → ¬ M' a) (hZ : ∀ a, H a ≠ none → ¬ M a → ¬ Z a → ¬ Z' a) {cls : Value} {dd : Option Addr} {x : Exc} (r : XRg g Z M H cls dd x) (k : retOks x.ds = true) : XRg g Z' M' H cls dd x := by
  cases r with
  | no h => exact .no h
  | yes h h1 h2 h3 r => exact .yes h h1 h2 h3 (r.back hM hZ k)
theorem callP_run {mask : List Bool} {F : FS} {dvs : List V} {dd : List D} (hdd : ∀ Z M H, Reps c.g Z M H dvs dd) {es : List Expr} {g : AS} {E : L2.St → XK} (hm : ∀ b ∈ mask, b = false) (hF : MonoF F) (hl : ∀ ss K E, F ss K E → ss.length = mask.length) (ha : AJ X c W p es g) (hE : ∀ σ cls dd H, W cls dd σ H → E σ cls dd H) :
    ∀ σ H Q, rdE c W p (callP F dd g) σ H Q → rdA c W p g σ H (fun vs H1 => spV c.g mask F (vs ++ dvs) H1 Q (E σ)) := by
  rintro σ H Q ⟨ρ, M, T, s, h⟩
  refine ⟨ρ, M, T, s, ha.mono _ _ _ _ _ (fun xs ρ1 k vs H1 M1 as q r => ?_) (fun _ _ h => h) h⟩
  split at k
  · rename_i ds e
    have hz : ∀ a ∈ as, ¬ c.Z a := fun a ha => by
      obtain ⟨Ms, _, _, al⟩ := q.sr.slots
      exact q.sr.noZ (al a (List.mem_append_right _ (List.mem_append_left _ ha)))
    have r' := (r.argDs e hz).append (hdd (fun a => c.Z a ∨ (M1 a ∧ a ∉ as)) (fun _ => False) H1)
    refine ⟨fun a => c.Z a ∨ (M1 a ∧ a ∉ as), (ds ++ dd).map .v, [], fun a z => ?_, fun _ h => absurd h (by simp), (repOs_v r').re (fun _ _ _ z => absurd z (by simp)) (fun _ _ _ z => z), .nil, hl _ _ _ k, hF _ _ _ _ _ (fun x ts k v H2 ras ias cp rv re => ?_) (fun x ts k cls dd H2 ias cp rx re => ?_) k⟩
    · rcases z with z | z
      · intro e2
        by_cases y : a ∈ c.io
        · exact c.zi a y z
        · cases e3 : c.H0 a with
          | none => exact c.zd a z e3
          | some o => have := q.sr.keep a o e3 y; rw [e2] at this; cases this
      · exact (q.sr.ty a z.1).ne
    · have ei : ias = [] ∧ ts = [] := by
        have := cp.io
        rw [pick_no hm] at this
        cases this; exact ⟨rfl, rfl⟩
      obtain ⟨rfl, rfl⟩ := ei
      have x2 : Ext H1 H2 := fun b o e => cp.keep b o e (by simp)
      have new : ∀ a ∈ ras, H1 a = none := fun a ha => by
        rcases cp.new a (List.mem_append_left _ ha) with z | z
        · exact absurd z (by simp)
        · exact z
      have nd : ras.Nodup := by simpa using cp.nd
      refine k v H2 (fun a => (M1 a ∧ a ∉ as) ∨ a ∈ ras) ras (q.call x2 nd new rv.typed) (rv.back (fun a _ n z y => ?_) (fun a _ n z y => z (.inl y)) re)
      rcases y with y | y
      · exact z (.inr y)
      · exact n (List.mem_append_left _ y)
    · have ei : ias = [] ∧ ts = [] := by
        have := cp.io
        rw [pick_no hm] at this
        cases this; exact ⟨rfl, rfl⟩
      obtain ⟨rfl, rfl⟩ := ei
      have x2 : Ext H1 H2 := fun b o e => cp.keep b o e (by simp)
      have q2 := q.weak.call x2 (ras := []) .nil (fun a h => absurd h (by simp)) (fun a h => absurd h (by simp))
      refine hE _ _ _ _ (k cls dd H2 _ q2 (rx.back (fun a _ n z y => ?_) (fun a _ n z y => z (.inl y)) re))
      rcases y with y | y
      · exact z (.inr y)
      · exact absurd y (by simp)
  · exact k.elim
theorem callP_mono {F : FS} {dd : List D} {g : AS} (hF : MonoF F) (hg : MonoA g) : Mono (callP F dd g) := fun ρ K K' E E' hk he h => hg _ _ _ _ _ (fun xs ρ1 h => by
  split at h
  · exact hF _ _ _ _ _ (fun x _ h => hk _ _ h) (fun x _ h => he _ _ h) h
  · exact h) he h
/-- f(e, ..): the def at f; dd: what its defaults stand for -/
theorem ej_callP {mask : List Bool} {F : FS} {k : Nat} {f : Addr} {fd : FuncData} {ps : List Str} {x : Str} {pp pos : Pos} {e : Expr} {es : List Expr} {g : AS} {dvs : List V} {dus : List Value} {dd : List D} (hF : MonoF F) (hl : ∀ ss K E, F ss K E → ss.length = mask.length) (hm : ∀ b ∈ mask, b = false)
    (G : FnOk X.prog X.w X.K X.mg X.base (L2.CX X.prog X.w) k f fd ps (spV c.g mask F)) (hr : L2.Room k X.A) (hg : L2.Gl X x) (hmg : X.mg x = some (.ref f)) (hk : PySem.W.keepIn X.K (.ref f) = true) (hb : L2.Binds X.K fd ps dus) (hd : L2.Vals dvs dus) (hdd : ∀ Z M H, Reps c.g Z M H dvs dd) (tk : L2.Takes X W)
    (ha : AJ X c W p (e :: es) g) (hdb : (x == ("__debug__" : Str)) = false := by decide) (he : starEach (e :: es) X.env = (false, eval e X.env) :: starEach es X.env := by rfl) (hpl : (backTo pos (starEach es X.env)).any (·.1) = false := by rfl) :
    EJ X c W p (.Call (.Name x pp) (e :: es) [] pos) (callP F dd g) :=
  ⟨callP_mono hF ha.mono, PE.imp (L2.pe_callSD (E := L2.WE W) G hr hg hmg hk hb hd (fun σ => L2.passAt tk σ) ha.run hdb he hpl) (callP_run hdd hm hF hl ha fun _ _ _ _ h => h)⟩
end
/-! ### statements -/
structure SK where
  nx : Rho → Prop
  rt : EV → Rho → Prop
  ex : Exc → Rho → Prop
  bk : Rho → Prop
  ct : Rho → Prop
def SK.le (a b : SK) : Prop := (∀ ρ, a.nx ρ → b.nx ρ) ∧ (∀ x ρ, a.rt x ρ → b.rt x ρ) ∧ (∀ x ρ, a.ex x ρ → b.ex x ρ) ∧ (∀ ρ, a.bk ρ → b.bk ρ) ∧ (∀ ρ, a.ct ρ → b.ct ρ)
abbrev SS := Rho → SK → Prop
def MonoS (f : SS) : Prop := ∀ ρ k k', SK.le k k' → f ρ k → f ρ k'
theorem SK.le.refl (k : SK) : SK.le k k := ⟨fun _ h => h, fun _ _ h => h, fun _ _ h => h, fun _ h => h, fun _ h => h⟩
/-- the ends of a statement from (M, T, H) -/
def skOf (c : Fr) (W : WX) (D : L2.Ends) (M : Addr → Prop) (T : List Addr) (H : Hp) : SK where
  nx ρ' := ∀ σ' H' M', Post c false σ' M T H M' T H' ρ' → D.nx σ' H'
  rt x ρ' := ∀ σ' v H' M' as, Post c false σ' M T H M' (as ++ T) H' ρ' → VR c M' H' v x as → D.rt v H'
  ex x ρ' := ∀ σ' cls dd H' M', Post c false σ' M T H M' T H' ρ' → XRep c M' H' cls dd x → W cls dd σ' H'
  bk ρ' := ∀ σ' H' M', Post c false σ' M T H M' T H' ρ' → D.bk σ' H'
  ct ρ' := ∀ σ' H' M', Post c false σ' M T H M' T H' ρ' → D.ct σ' H'
def rdS (c : Fr) (W : WX) (f : SS) : TS := fun D σ H => ∃ ρ M T, SR c M T σ H ρ ∧ f ρ (skOf c W D M T H)
structure SJ (X : Cx) (c : Fr) (W : WX) (st : Stmt) (f : SS) : Prop where
  mono : MonoS f
  run : PS X st (rdS c W f)
structure SJs (X : Cx) (c : Fr) (W : WX) (sts : List Stmt) (f : SS) : Prop where
  mono : MonoS f
  run : PSs X sts (rdS c W f)
theorem PS.imp {X : Cx} {st : Stmt} {t t' : TS} (h : PS X st t) (i : ∀ D σ H, t' D σ H → t D σ H) : PS X st t' := ⟨fun pins s σ H D I q => h.run pins s σ H D I (i D σ H q)⟩
theorem PSs.imp {X : Cx} {st : List Stmt} {t t' : TS} (h : PSs X st t) (i : ∀ D σ H, t' D σ H → t D σ H) : PSs X st t' := ⟨fun pins s σ H D I q => h.run pins s σ H D I (i D σ H q)⟩
section
variable {X : Cx} {c : Fr} {W : WX} {p p1 p2 : Bool} {M M1 M' M2 : Addr → Prop} {T T' as as1 as2 : List Addr} {σ σ1 : L2.St} {H H1 H' H2 : Hp} {ρ ρ1 ρ' ρ2 : Rho} {De : L2.Ends}
/-- from a state on the way to the ends: what is wanted of the rest -/
theorem skOf_after (q : Post c p σ1 M T H M1 T H1 ρ1) : SK.le (skOf c W De M T H) (skOf c W De M1 T H1) :=
  ⟨fun ρ' k σ' H' M' q2 => k σ' H' M' (q.trans q2 fun _ z => z).weak, fun x ρ' k σ' v H' M' as q2 r => k σ' v H' M' as (q.trans q2 fun _ z => z).weak r,
   fun x ρ' k σ' cls dd H' M' q2 r => k σ' cls dd H' M' (q.trans q2 fun _ z => z).weak r, fun ρ' k σ' H' M' q2 => k σ' H' M' (q.trans q2 fun _ z => z).weak, fun ρ' k σ' H' M' q2 => k σ' H' M' (q.trans q2 fun _ z => z).weak⟩
def nxS : SS := fun ρ k => k.nx ρ
def seqS (f g : SS) : SS := fun ρ k => f ρ { k with nx := fun ρ' => g ρ' k }
theorem seqS_mono {f g : SS} (hf : MonoS f) (hg : MonoS g) : MonoS (seqS f g) := fun ρ k k' l h => hf _ { k with nx := fun ρ' => g ρ' k } _ ⟨fun ρ' q => hg _ _ _ l q, l.2.1, l.2.2.1, l.2.2.2.1, l.2.2.2.2⟩ h
theorem sjs_nil : SJs X c W [] nxS := ⟨fun ρ k k' l h => l.1 _ h, PSs.imp L2.pss_nil fun D σ H ⟨ρ, M, T, s, h⟩ => h σ H M (Post.refl s)⟩
theorem sjs_one {st : Stmt} {f : SS} (h : SJ X c W st f) : SJs X c W [st] f := ⟨h.mono, L2.pss_one h.run⟩
theorem sjs_cons {st : Stmt} {sts : List Stmt} {f g : SS} (h : SJ X c W st f) (hs : SJs X c W sts g) : SJs X c W (st :: sts) (seqS f g) := by
  refine ⟨seqS_mono h.mono hs.mono, PSs.imp (L2.pss_cons h.run hs.run) ?_⟩
  rintro D σ H ⟨ρ, M, T, s, k⟩
  exact ⟨ρ, M, T, s, h.mono _ { skOf c W D M T H with nx := fun ρ' => g ρ' (skOf c W D M T H) } _ ⟨fun ρ' k σ' H' M' q => ⟨ρ', M', T, q.sr, hs.mono _ _ _ (skOf_after q) k⟩, fun _ _ h => h, fun _ _ h => h, fun _ h => h, fun _ h => h⟩ k⟩
def bkS : SS := fun ρ k => k.bk ρ
def ctS : SS := fun ρ k => k.ct ρ
/-- an expression, its value dropped -/
def exprS (f : ES) : SS := fun ρ k => f ρ (fun _ ρ' => k.nx ρ') k.ex
theorem exc_le (x : Exc) (ρ' : Rho) (h : (skOf c W De M T H).ex x ρ') : ∀ cls dd H' M', Post c false σ M T H M' T H' ρ' → XRep c M' H' cls dd x → W cls dd σ H' := fun cls dd H' M' q r => h σ cls dd H' M' q r
theorem sj_expr {e : Expr} {f : ES} {pos : Pos} (h : EJ X c W p e f) (hs : swapsWith e none pos.line X.env = pure false := by rfl) : SJ X c W (.Expr e pos) (exprS f) := by
  refine ⟨fun ρ k k' l q => h.mono _ _ _ _ _ (fun _ _ => l.1 _) (fun _ _ => l.2.2.1 _ _) q, PS.imp (L2.ps_expr h.run hs) ?_⟩
  rintro D σ H ⟨ρ, M, T, s, k⟩
  exact ⟨ρ, M, T, s, h.mono _ _ _ _ _ (fun x ρ' k v H' M' as q r => k σ H' M' q.drop.weak) (fun x ρ' k => exc_le x ρ' k) k⟩
def retS (f : ES) : SS := fun ρ k => f ρ (fun x ρ' => k.rt x ρ') k.ex
theorem sj_ret {e : Expr} {f : ES} {pos : Pos} (h : EJ X c W p e f) : SJ X c W (.Return (some e) pos) (retS f) := by
  refine ⟨fun ρ k k' l q => h.mono _ _ _ _ _ (fun _ _ => l.2.1 _ _) (fun _ _ => l.2.2.1 _ _) q, PS.imp (L2.ps_ret h.run) ?_⟩
  rintro D σ H ⟨ρ, M, T, s, k⟩
  exact ⟨ρ, M, T, s, h.mono _ _ _ _ _ (fun x ρ' k v H' M' as q r => k σ v H' M' as q.weak r) (fun x ρ' k => exc_le x ρ' k) k⟩
def retNS : SS := fun ρ k => k.rt (.v .non) ρ
def ifS (t : BS) (f g : SS) : SS := fun ρ k => t ρ (fun b ρ' => if b = true then f ρ' k else g ρ' k) k.ex
theorem sj_if {ct : Expr} {a b : List Stmt} {t : BS} {f g : SS} {pos : Pos} (hc : TJ X c W p ct t) (ha : SJs X c W a f) (hb : SJs X c W b g) : SJ X c W (.If ct a b pos) (ifS t f g) := by
  refine ⟨fun ρ k k' l q => hc.mono _ _ _ _ _ (fun b ρ' q => ?_) (fun _ _ => l.2.2.1 _ _) q, PS.imp (L2.ps_if hc.run ha.run hb.run) ?_⟩
  · split at q
    · rename_i h; rw [if_pos h]; exact ha.mono _ _ _ l q
    · rename_i h; rw [if_neg h]; exact hb.mono _ _ _ l q
  · rintro D σ H ⟨ρ, M, T, s, k⟩
    refine ⟨ρ, M, T, s, hc.mono _ _ _ _ _ (fun b ρ' k H' M' q => ?_) (fun x ρ' k => exc_le x ρ' k) k⟩
    split at k
    · rename_i h; rw [if_pos h]; exact ⟨ρ', M', T, q.sr, ha.mono _ _ _ (skOf_after q) k⟩
    · rename_i h; rw [if_neg h]; exact ⟨ρ', M', T, q.sr, hb.mono _ _ _ (skOf_after q) k⟩
end
/-! ### what a name is given -/
def evSl : EV → Option Sl
  | .v d => some (.v d)
  | .m s => some s
  | .b _ => none
  | .p _ => none
/-- name = value; fz: what is owned is owned no more -/
def setS (i : Nat) (fz : Bool) (f : ES) : SS := fun ρ k => f ρ (fun x ρ' => match evSl x with
  | some s => (match (if fz then (frSl s).map .v else some s) with
    | some s' => i < ρ'.length ∧ k.nx (ρ'.set i s')
    | none => False)
  | none => False) k.ex
section
variable {X : Cx} {c : Fr} {W : WX} {p p1 p2 : Bool} {M M1 M' M2 : Addr → Prop} {T T' as as1 as2 : List Addr} {σ σ1 : L2.St} {H H1 H' H2 : Hp} {ρ ρ1 ρ' ρ2 : Rho} {De : L2.Ends}
/-- a value on its way goes into a slot -/
theorem Post.put {i : Nat} {v : V} {s : Sl} (q : Post c p σ M T H M' (as ++ T) H' ρ') (r : RepO c.g c.Z M' H' v s as) (hi : i < ρ'.length) (hm : c.mask[i]? ≠ some true) : Post c p (σ.set i (some v)) M T H M' T H' (ρ'.set i s) := by
  obtain ⟨Ms, rs, nd, al⟩ := q.sr.slots
  obtain ⟨n1, n2, n3⟩ := List.nodup_append.mp nd
  obtain ⟨m1, m2, m3⟩ := List.nodup_append.mp n2
  obtain ⟨Ms', rs', h1, h2⟩ := RepS.put r rs hi
  refine ⟨⟨⟨Ms', rs', ?_, fun a ha => ?_⟩, q.sr.ty, q.sr.src, q.sr.keep, fun j hj => ?_, by rw [List.length_set]; exact q.sr.ln⟩, q.keep, q.new, q.pu⟩
  · refine List.nodup_append.mpr ⟨h2 n1 m1 fun a ha z => n3 a z a (List.mem_append_left _ ha) rfl, m2, fun a ha b hb e => ?_⟩
    rcases h1 a ha with z | z
    · exact n3 a z b (List.mem_append_right _ hb) e
    · exact m3 a z b hb e
  · rcases List.mem_append.mp ha with z | z
    · rcases h1 a z with z | z
      · exact al a (List.mem_append_left _ z)
      · exact al a (List.mem_append_right _ (List.mem_append_left _ z))
    · exact al a (List.mem_append_right _ (List.mem_append_right _ z))
  · have ne : i ≠ j := fun e => hm (e ▸ hj)
    rw [List.getElem?_set_ne ne]; exact q.sr.pin j hj
theorem VRg.sl {g : Ge} {Z : Addr → Prop} {v : V} {x : EV} {s : Sl} (r : VRg g Z M H v x as) (e : evSl x = some s) : RepO g Z M H v s as := by
  cases r with
  | v r => cases e; exact .v r
  | b _ _ => cases e
  | m r => cases e; exact r
/-- a value on its way is owned no more -/
theorem Post.frz {v : V} {s : Sl} {d : D} (q : Post c p σ M T H M' (as ++ T) H' ρ') (r : RepO c.g c.Z M' H' v s as) (e : frSl s = some d) : Post c p σ M T H (fun a => M' a ∧ a ∉ as) ([] ++ T) H' ρ' ∧ Rep c.g c.Z (fun a => M' a ∧ a ∉ as) H' v d := by
  have q2 := q.call (Ext.refl _) (ras := []) .nil (fun a h => absurd h (by simp)) (fun a h => absurd h (by simp))
  have eM : (fun a => (M' a ∧ a ∉ as) ∨ a ∈ ([] : List Addr)) = fun a => M' a ∧ a ∉ as := by funext a; simp
  rw [eM] at q2
  refine ⟨q2, (r.re (M' := fun a => M' a ∧ a ∉ as) (fun a _ n z => n z.1) fun _ _ _ z => z).freeze e fun a ha => ⟨fun z => z.2 ha, ?_⟩⟩
  obtain ⟨Ms, _, _, al⟩ := q.sr.slots
  exact q.sr.noZ (al a (List.mem_append_right _ (List.mem_append_left _ ha)))
theorem setS_mono {i : Nat} {fz : Bool} {f : ES} (hf : Mono f) : MonoS (setS i fz f) := fun ρ k k' l q => hf _ _ _ _ _ (fun x ρ' q => by
  split at q
  · split at q
    · exact ⟨q.1, l.1 _ q.2⟩
    · exact q
  · exact q) (fun _ _ => l.2.2.1 _ _) q
theorem setS_run {i : Nat} {fz : Bool} {f : ES} (hf : Mono f) (hm : c.mask[i]? ≠ some true) : ∀ D σ H, rdS c W (setS i fz f) D σ H → rdE c W p f σ H (fun v H1 => D.nx (σ.set i (some v)) H1) := by
  rintro D σ H ⟨ρ, M, T, s, k⟩
  refine ⟨ρ, M, T, s, hf _ _ _ _ _ (fun x ρ' k v H' M' as q r => ?_) (fun x ρ' k => exc_le x ρ' k) k⟩
  split at k
  · rename_i s' e
    have ro := r.sl e
    cases fz with
    | false => exact k.2 _ H' M' (q.weak.put ro k.1 hm)
    | true =>
      cases e2 : frSl s' with
      | none => simp [e2] at k
      | some d =>
        simp only [e2, if_true, Option.map_some] at k
        obtain ⟨q2, r2⟩ := q.weak.frz ro e2
        exact k.2 _ H' _ (q2.put (as := []) (.v r2) k.1 hm)
  · exact k.elim
theorem sj_set {i : Nat} {fz : Bool} {x : Str} {e : Expr} {f : ES} {pos pos' : Pos} (h : EJ X c W p e f) (hm : c.mask[i]? ≠ some true) (hN : X.N.Nodup) (hi : X.N[i]? = some x) (hx : L2.Loc X.env.scope x) (hs : swapsWith e (some (.Name x pos')) pos.line X.env = pure false := by rfl) (hf : X.fn x = true ∨ X.env.scope.names.lookup x = some .local := by first | exact .inl rfl | exact .inr rfl | assumption) :
    SJ X c W (.Assign [.Name x pos'] e pos) (setS i fz f) := ⟨setS_mono h.mono, PS.imp (L2.ps_set hN hi hx h.run hs hf) fun D σ H q => setS_run h.mono hm D σ H q⟩
end
end VS
set_option Elab.async false
set_option linter.all false
set_option maxRecDepth 100000
set_option maxHeartbeats 4000000
/-! VS7: targets, loops. Own work. -/
namespace VS
open PySem PySem.Spec PyProof.Rows
open L2 (V Hp HO upd SqL SqT Rd Cx TE TT TA TS TG TGs VK XK WX PE PT PA PS PSs PG PGs OpR RelV CallR Sp FnOk atI)
/-- the ends of a loop's body: w, what is wanted of the next turn -/
def SK.loop (k : SK) (w : Rho → Prop) : SK := ⟨w, k.rt, k.ex, k.nx, w⟩
/-! ### while -/
def whileN (t : BS) (f : SS) : Nat → SS
  | 0 => fun _ _ => False
  | n + 1 => fun ρ k => t ρ (fun b ρ' => if b = true then f ρ' (k.loop fun ρ2 => whileN t f n ρ2 k) else k.nx ρ') k.ex
def whileS (t : BS) (f : SS) : SS := fun ρ k => ∃ n, whileN t f n ρ k
section
variable {X : Cx} {c : Fr} {W : WX} {p p1 p2 : Bool} {M M1 M' M2 : Addr → Prop} {T T' as as1 as2 : List Addr} {σ σ1 : L2.St} {H H1 H' H2 : Hp} {ρ ρ1 ρ' ρ2 : Rho}
theorem whileN_mono {t : BS} {f : SS} (ht : MonoB t) (hf : MonoS f) : ∀ n, MonoS (whileN t f n)
  | 0 => fun _ _ _ _ h => h.elim
  | n + 1 => fun ρ k k' l h => ht _ _ _ _ _ (fun b ρ' h => by
      split at h
      · rename_i hb; rw [if_pos hb]
        exact hf _ (k.loop fun ρ2 => whileN t f n ρ2 k) (k'.loop fun ρ2 => whileN t f n ρ2 k') ⟨fun ρ2 h => whileN_mono ht hf n _ _ _ l h, l.2.1, l.2.2.1, l.1, fun ρ2 h => whileN_mono ht hf n _ _ _ l h⟩ h
      · rename_i hb; rw [if_neg hb]; exact l.1 _ h) (fun _ _ => l.2.2.1 _ _) h
theorem sj_while {ct : Expr} {body : List Stmt} {t : BS} {f : SS} {pos : Pos} (hp : PassesOwn (model X.prog X.w) X.A X.env X.xe) (hc : TJ X c W p ct t) (hb : SJs X c W body f) : SJ X c W (.While ct body [] pos) (whileS t f) := by
  refine ⟨fun ρ k k' l ⟨n, h⟩ => ⟨n, whileN_mono hc.mono hb.mono n _ _ _ l h⟩, PS.imp (L2.ps_while hp hc.run hb.run) ?_⟩
  rintro D σ H ⟨ρ, M, T, s, n, k⟩
  refine ⟨fun m σ H => ∃ ρ M T, SR c M T σ H ρ ∧ whileN t f m ρ (skOf c W D M T H), ⟨n, ρ, M, T, s, k⟩, ?_⟩
  rintro m σ H ⟨ρ, M, T, s, k⟩
  cases m with
  | zero => exact k.elim
  | succ m =>
    refine ⟨ρ, M, T, s, hc.mono _ _ _ _ _ (fun b ρ' k H1 M1 q => ?_) (fun x ρ' k => exc_le x ρ' k) k⟩
    split at k
    · rename_i hb'; rw [if_pos hb']
      refine ⟨fun σ H => ∃ ρ M T, SR c M T σ H ρ ∧ whileN t f m ρ (skOf c W D M T H), fun σ' H' h => ⟨m, Nat.lt_succ_self m, h⟩, ρ', M1, T, q.sr, hb.mono _ ((skOf c W D M T H).loop fun ρ2 => whileN t f m ρ2 (skOf c W D M T H)) _ ⟨fun ρ2 k σ2 H2 M2 q2 => ?_, fun x ρ2 k => (skOf_after (W := W) (De := D) q).2.1 x ρ2 k, fun x ρ2 k => (skOf_after (W := W) (De := D) q).2.2.1 x ρ2 k, fun ρ2 k => (skOf_after (W := W) (De := D) q).1 ρ2 k, fun ρ2 k σ2 H2 M2 q2 => ?_⟩ k⟩
      · exact ⟨ρ2, M2, T, q2.sr, whileN_mono hc.mono hb.mono m _ _ _ (skOf_after (q.trans q2 fun _ z => z)) k⟩
      · exact ⟨ρ2, M2, T, q2.sr, whileN_mono hc.mono hb.mono m _ _ _ (skOf_after (q.trans q2 fun _ z => z)) k⟩
    · rename_i hb'; rw [if_neg hb']; exact k σ H1 M1 q.weak
end
/-! ### targets -/
abbrev GS := Sl → Rho → (Rho → Prop) → Prop
def MonoG (f : GS) : Prop := ∀ s ρ K K', (∀ ρ', K ρ' → K' ρ') → f s ρ K → f s ρ K'
def rdG (c : Fr) (f : GS) : TG := fun v σ H Q => ∃ ρ M T s as, SR c M (as ++ T) σ H ρ ∧ RepO c.g c.Z M H v s as ∧ f s ρ (fun ρ' => ∀ σ' M', SR c M' T σ' H ρ' → (∀ a, M' a → M a) → Q σ' H)
structure GJ (X : Cx) (c : Fr) (e : Expr) (f : GS) : Prop where
  mono : MonoG f
  run : PG X e (rdG c f)
abbrev GSs := List Sl → Rho → (Rho → Prop) → Prop
def MonoGs (f : GSs) : Prop := ∀ s ρ K K', (∀ ρ', K ρ' → K' ρ') → f s ρ K → f s ρ K'
def rdGs (c : Fr) (f : GSs) : TGs := fun vs σ H Q => ∃ ρ M T ss as, SR c M (as ++ T) σ H ρ ∧ RepOs c.g c.Z M H vs ss as ∧ f ss ρ (fun ρ' => ∀ σ' M', SR c M' T σ' H ρ' → (∀ a, M' a → M a) → Q σ' H)
structure GJs (X : Cx) (c : Fr) (es : List Expr) (f : GSs) : Prop where
  mono : MonoGs f
  run : PGs X es (rdGs c f)
theorem PG.imp {X : Cx} {e : Expr} {t t' : TG} (h : PG X e t) (i : ∀ v σ H Q, t' v σ H Q → t v σ H Q) : PG X e t' := ⟨fun pins s σ H v u Q I r q => h.run pins s σ H v u Q I r (i v σ H Q q)⟩
theorem PGs.imp {X : Cx} {e : List Expr} {t t' : TGs} (h : PGs X e t) (i : ∀ v σ H Q, t' v σ H Q → t v σ H Q) : PGs X e t' := ⟨fun pins s σ H v u Q I r q => h.run pins s σ H v u Q I r (i v σ H Q q)⟩
def gN (i : Nat) (fz : Bool) : GS := fun s ρ K => match (if fz then (frSl s).map .v else some s) with
  | some s' => i < ρ.length ∧ K (ρ.set i s')
  | none => False
def gNil : GSs := fun ss ρ K => match ss with
  | [] => K ρ
  | _ => False
def gCons (f : GS) (g : GSs) : GSs := fun ss ρ K => match ss with
  | s :: ss => f s ρ (fun ρ1 => g ss ρ1 K)
  | [] => False
/-- a, b, .. = a tuple of n things -/
def gT (n : Nat) (g : GSs) : GS := fun s ρ K => match s with
  | .v (.tup ds) => ds.length = n ∧ g (ds.map .v) ρ K
  | .t ss => ss.length = n ∧ g ss ρ K
  | _ => False
section
variable {X : Cx} {c : Fr} {W : WX} {p p1 p2 : Bool} {M M1 M' M2 : Addr → Prop} {T T' as as1 as2 : List Addr} {σ σ1 : L2.St} {H H1 H' H2 : Hp} {ρ ρ1 ρ' ρ2 : Rho}
theorem SR.put {i : Nat} {v : V} {s : Sl} (q : SR c M (as ++ T) σ H ρ) (r : RepO c.g c.Z M H v s as) (hi : i < ρ.length) (hm : c.mask[i]? ≠ some true) : SR c M T (σ.set i (some v)) H (ρ.set i s) :=
  (Post.put (p := true) (M := M) (T := T) (H := H) ⟨q, fun _ _ h _ => h, fun _ h => .inl h, fun _ => Ext.refl _⟩ r hi hm).sr
theorem SR.frz {v : V} {s : Sl} {d : D} (q : SR c M (as ++ T) σ H ρ) (r : RepO c.g c.Z M H v s as) (e : frSl s = some d) : SR c (fun a => M a ∧ a ∉ as) T σ H ρ ∧ Rep c.g c.Z (fun a => M a ∧ a ∉ as) H v d := by
  obtain ⟨a, b⟩ := Post.frz (p := true) (M := M) (T := T) (H := H) ⟨q, fun _ _ h _ => h, fun _ h => .inl h, fun _ => Ext.refl _⟩ r e
  exact ⟨a.sr, b⟩
theorem gj_name {i : Nat} {fz : Bool} {x : Str} {pos : Pos} (hm : c.mask[i]? ≠ some true) (hN : X.N.Nodup) (hi : X.N[i]? = some x) (hx : L2.Loc X.env.scope x) (hf : X.fn x = true ∨ X.env.scope.names.lookup x = some .local := by first | exact .inl rfl | exact .inr rfl | assumption) : GJ X c (.Name x pos) (gN i fz) := by
  refine ⟨fun s ρ K K' hk h => ?_, PG.imp (L2.pg_name hN hi hx hf) ?_⟩
  · unfold gN at h ⊢
    split at h
    · exact ⟨h.1, hk _ h.2⟩
    · exact h
  · rintro v σ H Q ⟨ρ, M, T, s, as, sr, r, h⟩
    unfold gN at h
    split at h
    · rename_i s' e
      cases fz with
      | false =>
        simp only [Bool.false_eq_true, if_false, Option.some.injEq] at e
        subst e
        exact h.2 _ M (sr.put r h.1 hm) fun _ h => h
      | true =>
        cases e2 : frSl s with
        | none => simp [e2] at e
        | some d =>
          simp only [e2, if_true, Option.map_some, Option.some.injEq] at e
          subst e
          obtain ⟨sr2, r2⟩ := sr.frz r e2
          exact h.2 _ (fun a => M a ∧ a ∉ as) (sr2.put (as := []) (.v r2) h.1 hm) fun _ h => h.1
    · exact h.elim
theorem gjs_nil : GJs X c [] gNil := by
  refine ⟨fun ss ρ K K' hk h => ?_, PGs.imp L2.pgs_nil ?_⟩
  · unfold gNil at h ⊢
    split at h
    · exact hk _ h
    · exact h
  · rintro vs σ H Q ⟨ρ, M, T, ss, as, sr, r, h⟩
    unfold gNil at h
    split at h
    · cases r
      exact ⟨rfl, h σ M sr fun _ h => h⟩
    · exact h.elim
theorem gjs_cons {e : Expr} {es : List Expr} {f : GS} {g : GSs} (h1 : GJ X c e f) (h2 : GJs X c es g) (hs : (assignEach (e :: es) X.env).map (·.2) = assign e X.env :: (assignEach es X.env).map (·.2) := by rfl) : GJs X c (e :: es) (gCons f g) := by
  refine ⟨fun ss ρ K K' hk h => ?_, PGs.imp (L2.pgs_cons h1.run h2.run hs) ?_⟩
  · unfold gCons at h ⊢
    split at h
    · exact h1.mono _ _ _ _ (fun _ h => h2.mono _ _ _ _ hk h) h
    · exact h
  · rintro vs σ H Q ⟨ρ, M, T, ss, as, sr, r, h⟩
    unfold gCons at h
    split at h
    · cases r with
      | cons r rs =>
        rename_i s0 ss0 v as1 vs bs
        have sr' : SR c M (as1 ++ (bs ++ T)) σ H ρ := by rw [← List.append_assoc]; exact sr
        refine ⟨v, vs, rfl, ρ, M, bs ++ T, s0, as1, sr', r, h1.mono _ _ _ _ (fun ρ1 h σ1 M1 q1 hM => ?_) h⟩
        have rs' : RepOs c.g c.Z M1 H vs ss0 bs := rs.re (fun a _ n z => n (hM a z)) fun _ _ _ z => z
        exact ⟨ρ1, M1, T, ss0, bs, q1, rs', h2.mono _ _ _ _ (fun ρ2 h σ2 M2 q2 hM2 => h σ2 M2 q2 fun a z => hM a (hM2 a z)) h⟩
    · exact h.elim
theorem gj_tup {es : List Expr} {k n : Nat} {g : GSs} {pos : Pos} (hK : X.K = c.g.K) (hc : X.calm = true) (h : GJs X c es g) (hn : (assignEach es X.env).length = n := by rfl) (hst : (assignEach es X.env).findIdx? (·.1) = none := by rfl) : GJ X c (.Tuple es k pos) (gT n g) := by
  refine ⟨fun s ρ K K' hk h' => ?_, PG.imp (L2.pg_tup hc h.run hn hst) ?_⟩
  · unfold gT at h' ⊢
    split at h'
    · exact ⟨h'.1, h.mono _ _ _ _ hk h'.2⟩
    · exact ⟨h'.1, h.mono _ _ _ _ hk h'.2⟩
    · exact h'
  · rintro v σ H Q ⟨ρ, M, T, s, as, sr, r, h'⟩
    unfold gT at h'
    split at h'
    · cases r with
      | v r =>
      cases r with
      | tup t r => exact ⟨_, _, rfl, hK ▸ t, r.length.trans h'.1, ρ, M, T, _, [], sr, repOs_v r, h'.2⟩
    · cases r with
      | t t r => exact ⟨_, _, rfl, hK ▸ t, r.length.trans h'.1, ρ, M, T, _, as, sr, r, h'.2⟩
    · exact h'.elim
/-- target = value -/
def asgS (g : GS) (f : ES) : SS := fun ρ k => f ρ (fun x ρ' => match evSl x with
  | some s => g s ρ' k.nx
  | none => False) k.ex
theorem sj_asg {tg e : Expr} {g : GS} {f : ES} {pos : Pos} (he : EJ X c W p e f) (hg : GJ X c tg g) (hs : swapsWithSole [tg] e pos.line X.env = pure false := by rfl) (hw : swappedStores [tg] e X.env = pure none := by rfl) (h1 : (assignEach [tg] X.env).map (·.2) = [assign tg X.env] := by rfl) :
    SJ X c W (.Assign [tg] e pos) (asgS g f) := by
  refine ⟨fun ρ k k' l q => he.mono _ _ _ _ _ (fun x ρ' q => ?_) (fun _ _ => l.2.2.1 _ _) q, PS.imp (L2.ps_asg he.run hg.run hs hw h1) ?_⟩
  · split at q
    · exact hg.mono _ _ _ _ l.1 q
    · exact q
  · rintro D σ H ⟨ρ, M, T, s, k⟩
    refine ⟨ρ, M, T, s, he.mono _ _ _ _ _ (fun x ρ' k v H' M' as q r => ?_) (fun x ρ' k => exc_le x ρ' k) k⟩
    split at k
    · rename_i s' e
      exact ⟨ρ', M', T, s', as, q.sr, r.sl e, hg.mono _ _ _ _ (fun ρ2 k σ2 M2 q2 hM => k σ2 H' M2 ⟨q2, q.keep, fun a z => q.new a (hM a z), fun e => nomatch e⟩) k⟩
    · exact k.elim
/-- a, b = x, y with plain names -/
def parS (i j : Nat) (g : AS) : SS := fun ρ k => g ρ (fun xs ρ' => match xs with
  | [x, y] => (match evSl x, evSl y with
    | some s, some t => i < ρ'.length ∧ j < ρ'.length ∧ k.nx ((ρ'.set i s).set j t)
    | _, _ => False)
  | _ => False) k.ex
theorem sj_par {i j : Nat} {x y : Str} {a b : Expr} {g : AS} {px py pt pos : Pos} {kt k2 pt2} (hmi : c.mask[i]? ≠ some true) (hmj : c.mask[j]? ≠ some true) (hc : X.calm = true) (hN : X.N.Nodup) (hi : X.N[i]? = some x) (hj : X.N[j]? = some y) (hij : i ≠ j)
    (hx : X.env.scope.names.lookup x = some .local) (hy : X.env.scope.names.lookup y = some .local) (ha : AJ X c W p [a, b] g)
    (hw : swappedStores [.Tuple [.Name x px, .Name y py] kt pt] (.Tuple [a, b] k2 pt2) X.env = pure (some [x, y]))
    (hs : swapsWithSole [.Tuple [.Name x px, .Name y py] kt pt] (.Tuple [a, b] k2 pt2) pos.line X.env = pure false := by rfl) : SJ X c W (.Assign [.Tuple [.Name x px, .Name y py] kt pt] (.Tuple [a, b] k2 pt2) pos) (parS i j g) := by
  refine ⟨fun ρ k k' l q => ha.mono _ _ _ _ _ (fun xs ρ' q => ?_) (fun _ _ => l.2.2.1 _ _) q, PS.imp (L2.ps_par hc hN hi hj hij hx hy ha.run hw hs) ?_⟩
  · split at q
    · split at q
      · exact ⟨q.1, q.2.1, l.1 _ q.2.2⟩
      · exact q
    · exact q
  · rintro D σ H ⟨ρ, M, T, s, k⟩
    refine ⟨ρ, M, T, s, ha.mono _ _ _ _ _ (fun xs ρ' k vs H' M' as q r => ?_) (fun x ρ' k => exc_le x ρ' k) k⟩
    split at k
    · obtain ⟨v, u, as1, as2, rfl, r1, r2, rfl⟩ := r.two
      split at k
      · rename_i s1 s2 e1 e2
        have q' := q.weak
        rw [List.append_assoc] at q'
        have hm2 : as1 ++ T = as1 ++ T := rfl
        -- the second value stays on its way while the first one is put
        have qp : Post c false σ M T H M' (as1 ++ (as2 ++ T)) H' ρ' := by
          obtain ⟨Ms, rs, nd, al⟩ := q'.sr.slots
          have pm : (Ms ++ (as1 ++ (as2 ++ T))).Perm (Ms ++ (as2 ++ (as1 ++ T))) := by
            refine List.Perm.append_left _ ?_
            rw [← List.append_assoc, ← List.append_assoc]
            exact List.Perm.append_right _ List.perm_append_comm
          exact ⟨⟨⟨Ms, rs, pm.nodup_iff.mpr nd, fun a ha => al a (pm.mem_iff.mp ha)⟩, q'.sr.ty, q'.sr.src, q'.sr.keep, q'.sr.pin, q'.sr.ln⟩, q'.keep, q'.new, q'.pu⟩
        have w1 := SR.put qp.sr (r1.sl e1) k.1 hmi
        have w2 := SR.put w1 (r2.sl e2) (by rw [List.length_set]; exact k.2.1) hmj
        exact ⟨v, u, rfl, k.2.2 _ H' M' ⟨w2, q'.keep, q'.new, fun e => nomatch e⟩⟩
      · exact k.elim
    · exact k.elim
end
end VS
set_option Elab.async false
set_option linter.all false
set_option maxRecDepth 100000
set_option maxHeartbeats 4000000
/-! VS8: a def keeps its promise; raise; what a call changes of its caller's slots; built-in methods. Own work. -/
namespace VS
open PySem PySem.Spec PyProof.Rows
open L2 (V Hp HO upd SqL SqT Rd Cx TE TT TA TS TG TGs VK XK WX PE PT PA PS PSs PG PGs OpR RelV CallR Sp FnOk atI)
def defK (mask : List Bool) (K : EV → List Sl → Prop) (E : Exc → List Sl → Prop) : SK where
  nx ρ' := retSls (pick mask ρ') = true ∧ K (.v .non) (pick mask ρ')
  rt x ρ' := (retEV x = true ∧ retSls (pick mask ρ') = true) ∧ K x (pick mask ρ')
  ex x ρ' := (retOks x.ds = true ∧ retSls (pick mask ρ') = true) ∧ E x (pick mask ρ')
  bk _ := False
  ct _ := False
/-- a def by its body -/
def defF (mask : List Bool) (m : Nat) (sf : SS) : FS := fun ss K E => ss.length = mask.length ∧ sf (ss ++ List.replicate (m - ss.length) .no) (defK mask K E)
theorem defF_len {mask : List Bool} {m : Nat} {sf : SS} : ∀ ss K E, defF mask m sf ss K E → ss.length = mask.length := fun _ _ _ h => h.1
section
variable {g : Ge} {Z M M' : Addr → Prop} {H H' : Hp}
theorem RepS.pick : ∀ (m : List Bool) {σ : L2.St} {ρ : Rho} {Ms : List Addr}, RepS g Z M H σ ρ Ms → retSls (pick m ρ) = true → ∃ us ias, VS.pick m σ = us.map some ∧ RepOs g Z M H us (VS.pick m ρ) ias ∧ ias.Sublist Ms
  | [], σ, ρ, _, _, _ => ⟨[], [], by cases σ <;> rfl, by cases ρ <;> exact .nil, List.nil_sublist _⟩
  | true :: m, _, _, _, .nil, _ => ⟨[], [], rfl, .nil, List.nil_sublist _⟩
  | false :: m, _, _, _, .nil, _ => ⟨[], [], rfl, .nil, List.nil_sublist _⟩
  | false :: m, _, _, _, .no r, h => by
    obtain ⟨us, ias, h1, h2, h3⟩ := r.pick m h
    exact ⟨us, ias, h1, h2, h3⟩
  | false :: m, _, _, _, .yes q r, h => by
    obtain ⟨us, ias, h1, h2, h3⟩ := r.pick m h
    exact ⟨us, ias, h1, h2, h3.trans (List.sublist_append_right _ _)⟩
  | true :: m, _, _, _, .no (ρ := ρ) r, h => by
    have : (retSl .no && retSls (VS.pick m ρ)) = true := h
    rw [Bool.and_eq_true] at this
    exact absurd this.1 (by simp [retSl])
  | true :: m, _, _, _, .yes (v := v) (s := s) (ρ := ρ) q r, h => by
    have h' : (retSl s && retSls (VS.pick m ρ)) = true := h
    rw [Bool.and_eq_true] at h'
    obtain ⟨us, ias, h1, h2, h3⟩ := r.pick m h'.2
    exact ⟨v :: us, _ ++ ias, by show _ :: VS.pick m _ = _; rw [h1]; rfl, .cons q h2, List.Sublist.append (List.Sublist.refl _) h3⟩
theorem pick_congr {α : Type} : ∀ (m : List Bool) {xs ys : List α}, xs.length = ys.length → (∀ j : Nat, m[j]? = some true → xs[j]? = ys[j]?) → pick m xs = pick m ys
  | [], xs, ys, _, _ => by cases xs <;> cases ys <;> rfl
  | _ :: _, [], [], _, _ => rfl
  | _ :: _, [], _ :: _, h, _ => by simp at h
  | _ :: _, _ :: _, [], h, _ => by simp at h
  | true :: m, x :: xs, y :: ys, hl, h => by
    have e : x = y := by have := h 0 rfl; simpa using this
    subst e
    show x :: pick m xs = x :: pick m ys
    rw [pick_congr m (by simpa using hl) fun j hj => by have := h (j + 1) (by simpa using hj); simpa using this]
  | false :: m, x :: xs, y :: ys, hl, h => pick_congr m (xs := xs) (ys := ys) (by simpa using hl) fun j hj => by have := h (j + 1) (by simpa using hj); simpa using this
theorem pick_map : ∀ (m : List Bool) {vs : List V} {r : List (Option V)}, vs.length = m.length → pick m (vs.map some ++ r) = (pick m vs).map some
  | [], [], r, _ => by cases r <;> rfl
  | [], _ :: _, _, h => by simp at h
  | _ :: _, [], _, h => by simp at h
  | true :: m, v :: vs, r, h => by
    show some v :: pick m (vs.map some ++ r) = some v :: (pick m vs).map some
    rw [pick_map m (by simpa using h)]
  | false :: m, v :: vs, r, h => pick_map m (vs := vs) (by simpa using h)
theorem repS_no : ∀ (n : Nat), RepS g Z M H (List.replicate n none) (List.replicate n .no) []
  | 0 => .nil
  | n + 1 => .no (repS_no n)
theorem repS_start {n : Nat} : ∀ {vs : List V} {ss : List Sl} {as : List Addr}, RepOs g Z M H vs ss as → RepS g Z M H (vs.map some ++ List.replicate n none) (ss ++ List.replicate n .no) as
  | _, _, _, .nil => repS_no n
  | _, _, _, .cons r rs => .yes r (repS_start rs)
theorem map_some_inj : ∀ {xs ys : List V}, xs.map some = ys.map some → xs = ys
  | [], [], _ => rfl
  | [], _ :: _, h => by simp at h
  | _ :: _, [], h => by simp at h
  | x :: xs, y :: ys, h => by
    simp only [List.map_cons, List.cons.injEq, Option.some.injEq] at h
    rw [h.1, map_some_inj h.2]
end
section
variable {P : Program} {w : World} {K : PySem.W.Frag} {mg : Str → Option Value} {base : Heap}
/-- the context of a body -/
abbrev frOf (K : PySem.W.Frag) (mg : Str → Option Value) (mask : List Bool) (Z : Addr → Prop) (H0 : Hp) (io : List Addr) (zd : ∀ a, Z a → H0 a ≠ none) (zi : ∀ a ∈ io, ¬ Z a) (s0 : L2.St) : Fr := ⟨⟨K, mg⟩, Z, H0, io, zd, zi, mask, s0⟩
theorem end_post {c : Fr} {x : EV} {σ' : L2.St} {v : V} {as as' : List Addr} {M' : Addr → Prop} {H H' : Hp} {ρ' : Rho} {vs : List V} {N : List Str} (h0 : c.H0 = H) (hio : c.io = as) (hs : c.s0 = L2.start N vs) (hl : vs.length = c.mask.length) (hN : vs.length ≤ N.length)
    (q : Post c false σ' (fun a => a ∈ as) [] H M' (as' ++ []) H' ρ') (hx : retSls (pick c.mask ρ') = true) :
    ∃ ias, CPost c.g c.Z c.mask vs as H H' (pick c.mask ρ') ias as' ∧ (∀ a ∈ as' ++ ias, M' a) := by
  obtain ⟨Ms, r, nd, al⟩ := q.sr.slots
  obtain ⟨us, ias, h1, h2, h3⟩ := r.pick c.mask hx
  have e : VS.pick c.mask σ' = (VS.pick c.mask vs).map some := by
    rw [pick_congr c.mask (ys := c.s0) ?_ q.sr.pin, hs]
    · exact pick_map c.mask hl
    · exact q.sr.ln
  have eu : us = VS.pick c.mask vs := map_some_inj (h1.symm.trans e)
  subst eu
  have hM : ∀ a ∈ as' ++ ias, M' a := fun a ha => al a (by
    rcases List.mem_append.mp ha with ha | ha
    · exact List.mem_append_right _ (List.mem_append_left _ ha)
    · exact List.mem_append_left _ (h3.subset ha))
  refine ⟨ias, ⟨fun b o eb hb => ?_, h2.back (fun a _ n z k => n (hM a k)) (fun _ _ _ z => z) hx, ?_, fun a ha => ?_, hx⟩, hM⟩
  · exact q.keep b o eb fun z => absurd z hb
  · obtain ⟨n1, n2, n3⟩ := List.nodup_append.mp nd
    exact List.nodup_append.mpr ⟨(List.nodup_append.mp n2).1, n1.sublist h3, fun a ha b hb e => n3 b (h3.subset hb) a (List.mem_append_left _ ha) e.symm⟩
  · exact q.new a (hM a ha)
theorem def_ok {x qual : Str} {st : Stmt} {f : Addr} {fd : FuncData} {N ps : List Str} {k : Nat} {mask : List Bool} {sf : SS} {dvs : List V} {kws : List (Str × V)} (F : L2.FunD K x qual (L2.defArgs st) (L2.defBody st) (L2.defScope st) dvs kws f fd) (S : L2.FnScope N ps (L2.defScope st)) (hml : mask.length = ps.length) (hpl : ps.length ≤ N.length)
    (hbody : ∀ (cdv : Value) (A : Around) (outer : List Env) (s : Shared) (H : Hp) (E : XK) (Z : Addr → Prop) (H0 : Hp) (io : List Addr) (zd : ∀ a, Z a → H0 a ≠ none) (zi : ∀ a ∈ io, ¬ Z a) (s0 : L2.St), L2.Room k (A.deeper (envOfC qual (L2.defScope st) s.heap.objs.size f cdv)) →
      SJs (L2.cxOf (L2.CX P w) P w K mg base N qual (L2.defScope st) f cdv A outer s H E) (frOf K mg mask Z H0 io zd zi s0) (fun cls dd _ H => E cls dd H) (L2.defBody st) sf) :
    FnOk P w K mg base (L2.CX P w) (k + 1) f fd ps (spV ⟨K, mg⟩ mask (defF mask N.length sf)) := by
  have hlv : ∀ vs H Q E, spV ⟨K, mg⟩ mask (defF mask N.length sf) vs H Q E → vs.length = ps.length := fun vs H Q E ⟨Z, ss, as, _, _, r, _, hl, _⟩ => by rw [r.length, hl, hml]
  refine F.ok (CX := L2.CX P w) S hlv fun cdv A outer s H vs Q E hr hsp => ?_
  have hv := hlv vs H Q E hsp
  obtain ⟨Z, ss, as, zd, za, r, nd, hl, _, hF⟩ := hsp
  have J := hbody cdv A outer s H E Z H as zd za (L2.start N vs) hr
  refine ⟨_, J.run, ss ++ List.replicate (N.length - ss.length) .no, fun a => a ∈ as, [], ?_, ?_⟩
  · have e : L2.start N vs = vs.map some ++ List.replicate (N.length - ss.length) none := by unfold L2.start; rw [r.length]
    exact ⟨⟨as, by rw [e]; exact repS_start r, by rw [List.append_nil]; exact nd, fun a h => by simpa using h⟩, fun a h => r.typed a h, fun a h => .inl h, fun b o e _ => e, fun _ _ => rfl, rfl⟩
  · have hlc : vs.length = (frOf K mg mask Z H as zd za (L2.start N vs)).mask.length := by show vs.length = mask.length; omega
    refine J.mono _ (defK mask _ _) _ ⟨fun ρ' h σ' H' M' q => ?_, fun x ρ' h σ' v H' M' as' q rv => ?_, fun x ρ' h σ' cls dd H' M' q rx => ?_, fun _ h => h.elim, fun _ h => h.elim⟩ hF
    · obtain ⟨ias, cp, hM⟩ := end_post (c := frOf K mg mask Z H as zd za (L2.start N vs)) (x := .v .non) (v := .non) (as' := []) (N := N) rfl rfl rfl hlc (by omega) q h.1
      exact h.2 .non H' [] ias cp (.v .non) rfl
    · obtain ⟨ias, cp, hM⟩ := end_post (c := frOf K mg mask Z H as zd za (L2.start N vs)) (x := x) (v := v) (N := N) rfl rfl rfl hlc (by omega) q h.1.2
      exact h.2 v H' as' ias cp (rv.back (fun a _ n _ k => n (hM a k)) (fun _ _ _ z => z) h.1.1) h.1.1
    · obtain ⟨ias, cp, hM⟩ := end_post (c := frOf K mg mask Z H as zd za (L2.start N vs)) (x := .v .non) (v := .non) (as' := []) (N := N) rfl rfl rfl hlc (by omega) q h.1.2
      exact h.2 cls dd H' ias cp (rx.back (fun a _ n _ k => n (hM a (List.mem_append_right _ k))) (fun _ _ _ z => z) h.1.1) h.1.1
end
end VS
set_option Elab.async false
set_option linter.all false
set_option maxRecDepth 100000
set_option maxHeartbeats 4000000
/-! VS9: defs by name, raise, more built-in calls. Own work. -/
namespace VS
open PySem PySem.Spec PyProof.Rows
open L2 (V Hp HO upd SqL SqT Rd Cx TE TT TA TS TG TGs VK XK WX PE PT PA PS PSs PG PGs OpR RelV CallR Sp FnOk atI)
/-- the def that stands under the name x keeps the promise F, within k calls -/
structure Def (P : Program) (w : World) (K : PySem.W.Frag) (mg : Str → Option Value) (base : Heap) (k : Nat) (x : Str) (ps : List Str) (mask : List Bool) (F : FS) : Prop where
  ex : ∃ f fd, FnOk P w K mg base (L2.CX P w) k f fd ps (spV ⟨K, mg⟩ mask F) ∧ mg x = some (.ref f) ∧ PySem.W.keepIn K (.ref f) = true ∧ L2.Binds K fd ps [] ∧ ∃ oc od osl, K.lookup f = some ⟨oc, od, .func fd, osl⟩
  mono : MonoF F
  len : ∀ ss K E, F ss K E → ss.length = mask.length
/-- the text of the def that stands under the name x -/
structure At (K : PySem.W.Frag) (mg : Str → Option Value) (x qual : Str) (st : Stmt) (ps : List Str) : Prop where
  ex : ∃ f fd dvs kws, L2.FunD K x qual (L2.defArgs st) (L2.defBody st) (L2.defScope st) dvs kws f fd ∧ mg x = some (.ref f) ∧ L2.Binds K fd ps []
theorem spV_imp {g : Ge} {mask : List Bool} {F F' : FS} (h : ∀ ss K E, F' ss K E → F ss K E) : ∀ vs H Q E, spV g mask F' vs H Q E → spV g mask F vs H Q E :=
  fun vs H Q E ⟨Z, ss, as, h1, h2, h3, h4, h5, h6⟩ => ⟨Z, ss, as, h1, h2, h3, h4, h5, h _ _ _ h6⟩
section
variable {P : Program} {w : World} {K : PySem.W.Frag} {mg : Str → Option Value} {base : Heap}
theorem Def.imp {k : Nat} {x : Str} {ps : List Str} {mask : List Bool} {F F' : FS} (d : Def P w K mg base k x ps mask F) (hm : MonoF F') (hl : ∀ ss K E, F' ss K E → ss.length = mask.length) (h : ∀ ss K E, F' ss K E → F ss K E) : Def P w K mg base k x ps mask F' := by
  obtain ⟨f, fd, G, h1, h2, h3⟩ := d.ex
  exact ⟨⟨f, fd, G.imp (spV_imp h), h1, h2, h3⟩, hm, hl⟩
theorem Def.up {k k' : Nat} {x : Str} {ps : List Str} {mask : List Bool} {F : FS} (d : Def P w K mg base k x ps mask F) (h : k ≤ k') : Def P w K mg base k' x ps mask F := by
  obtain ⟨f, fd, G, h1, h2, h3⟩ := d.ex
  exact ⟨⟨f, fd, G.mono h, h1, h2, h3⟩, d.mono, d.len⟩
/-- .. without what its callers ask besides -/
structure DefR (P : Program) (w : World) (K : PySem.W.Frag) (mg : Str → Option Value) (base : Heap) (k : Nat) (x : Str) (ps : List Str) (mask : List Bool) (F : FS) : Prop where
  ex : ∃ f fd, FnOk P w K mg base (L2.CX P w) k f fd ps (spV ⟨K, mg⟩ mask F) ∧ mg x = some (.ref f) ∧ PySem.W.keepIn K (.ref f) = true ∧ L2.Binds K fd ps [] ∧ ∃ oc od osl, K.lookup f = some ⟨oc, od, .func fd, osl⟩
/-- a nicer promise -/
theorem DefR.def {k : Nat} {x : Str} {ps : List Str} {mask : List Bool} {F F' : FS} (d : DefR P w K mg base k x ps mask F) (hm : MonoF F') (h : ∀ ss K E, F' ss K E → F ss K E) (hl : ∀ ss K E, F ss K E → ss.length = mask.length) : Def P w K mg base k x ps mask F' := by
  obtain ⟨f, fd, G, h1, h2, h3⟩ := d.ex
  exact ⟨⟨f, fd, G.imp (spV_imp h), h1, h2, h3⟩, hm, fun ss K E q => hl ss K E (h ss K E q)⟩
/-- a def by its body -/
theorem DefR.mk' {x qual : Str} {st : Stmt} {N ps : List Str} {k : Nat} {mask : List Bool} {sf : SS} (A : At K mg x qual st ps) (S : L2.FnScope N ps (L2.defScope st)) (hml : mask.length = ps.length) (hpl : ps.length ≤ N.length)
    (hbody : ∀ (f : Addr) (cdv : Value) (A : Around) (outer : List Env) (s : Shared) (H : Hp) (E : XK) (Z : Addr → Prop) (H0 : Hp) (io : List Addr) (zd : ∀ a, Z a → H0 a ≠ none) (zi : ∀ a ∈ io, ¬ Z a) (s0 : L2.St), L2.Room k (A.deeper (envOfC qual (L2.defScope st) s.heap.objs.size f cdv)) →
      SJs (L2.cxOf (L2.CX P w) P w K mg base N qual (L2.defScope st) f cdv A outer s H E) (frOf K mg mask Z H0 io zd zi s0) (fun cls dd _ H => E cls dd H) (L2.defBody st) sf) :
    DefR P w K mg base (k + 1) x ps mask (defF mask N.length sf) := by
  obtain ⟨f, fd, dvs, kws, F, h1, h2⟩ := A.ex
  have lk : ∃ oc od osl, K.lookup f = some ⟨oc, od, .func fd, osl⟩ := by
    obtain ⟨oc, od, dV, kV, doc, pm, an, cdv, ct, osl, rfl, lk, _⟩ := F.ex
    exact ⟨_, _, _, lk⟩
  exact ⟨⟨f, fd, def_ok F S hml hpl (hbody f), h1, F.kp, h2, lk⟩⟩
/-- an own error class of one text -/
structure XCls (K : PySem.W.Frag) (mg : Str → Option Value) (x : Str) : Prop where
  ex : ∃ C, mg x = some (.ref C) ∧ PySem.W.excIn K C [.type "ValueError", .type "Exception", .type "BaseException", .type "object"] "ValueError.__new__" = true ∧ PySem.W.keepIn K (.ref C) = true ∧ PySem.W.subIn K (.ref C) (.type "BaseException") = some true ∧ PySem.W.typeIn K (.ref C) = some (.type "type")
end
section
variable {X : Cx} {c : Fr} {W : WX} {p p1 p2 : Bool} {M M' M2 : Addr → Prop} {T T' as as1 as2 : List Addr} {σ : L2.St} {H H' H2 : Hp} {ρ ρ' ρ2 : Rho}
/-- f(e, ..) of a def that changes nothing of what it is handed -/
theorem ej_call {mask : List Bool} {F : FS} {j k : Nat} {ps : List Str} {x : Str} {pp pos : Pos} {e : Expr} {es : List Expr} {g : AS} (d : Def X.prog X.w c.g.K c.g.mg X.base j x ps mask F) (hm : ∀ b ∈ mask, b = false)
    (hK : X.K = c.g.K) (hmg : X.mg = c.g.mg) (hr : L2.Room k X.A) (hjk : j ≤ k) (hg : L2.Gl X x) (tk : L2.Takes X W)
    (ha : AJ X c W p (e :: es) g) (hdb : (x == ("__debug__" : Str)) = false := by decide) (he : starEach (e :: es) X.env = (false, eval e X.env) :: starEach es X.env := by rfl) (hpl : (backTo pos (starEach es X.env)).any (·.1) = false := by rfl) :
    EJ X c W p (.Call (.Name x pp) (e :: es) [] pos) (callP F [] g) := by
  obtain ⟨f, fd, G, h1, h2, h3⟩ := d.ex
  have G' : FnOk X.prog X.w X.K X.mg X.base (L2.CX X.prog X.w) j f fd ps (spV c.g mask F) := by rw [hK, hmg]; exact G
  exact ej_callP d.mono d.len hm G' (hr.mono hjk) hg (by rw [hmg]; exact h1) (by rw [hK]; exact h2) (by rw [hK]; exact h3.1) .nil (fun _ _ _ => .nil) tk ha hdb he hpl
/-- raise X('..') of an own class without __init__ -/
def raiseS (cn : Str) : SS := fun ρ k => k.ex ⟨cn, [], []⟩ ρ
theorem sj_raise {x m : Str} {j : Nat} {pp p2 pos pos' : Pos} (hK : X.K = c.g.K) (hmg : X.mg = c.g.mg) (hc : X.calm = true) (tk : L2.Takes X W) (xc : XCls c.g.K c.g.mg x) (hg : L2.Gl X x)
    (hdb : (x == ("__debug__" : Str)) = false := by decide) : SJ X c W (.Raise (some (.Call (.Name x pp) [.Constant (.str m) j p2] [] pos)) none pos') (raiseS x) := by
  obtain ⟨C, gC, q, kC, sb, ty⟩ := xc.ex
  have gC' : X.mg x = some (.ref C) := by rw [hmg]; exact gC
  refine ⟨fun ρ k k' l h => l.2.2.1 _ _ h, PS.imp (L2.ps_raise hc tk (L2.pmk_own PySem.F.excBase_ValueError (by rw [hK]; exact q) gC' (by rw [hK]; exact kC) (L2.raises_own (by rw [hK]; exact sb) (by rw [hK]; exact ty)) hg hdb)) ?_⟩
  rintro D σ H ⟨ρ, M, T, s, k⟩
  exact k σ _ _ H M (Post.refl s) (.no gC)
/-! abs of an int, max and min of two ints, divmod -/
def absC : CR := fun xs K _ ρ => match xs with
  | [.v (.int i)] => K (.v (.int (if i < 0 then -i else i))) ρ
  | _ => False
theorem absC_mono : MonoC absC := fun xs ρ K K' E E' hk _ h => by
  unfold absC at h ⊢
  split at h
  · exact hk _ _ h
  · exact h
theorem absC_says : SaysC c (fun xs H Q => ∃ i, xs = [.int i] ∧ Q (.int (if i < 0 then -i else i)) H) absC := by
  intro p σ M T H M2 H2 ρ2 as vs xs Q E q r h
  unfold absC at h
  split at h
  · obtain ⟨v, rfl, r1⟩ := r.one
    exact ⟨_, by rw [r1.int], h _ H2 M2 [] q.drop (.v (.int _))⟩
  · exact h.elim
theorem call_divmodV : CallR X (.builtin "divmod") (fun xs H Q => ∃ i j, xs = [.int i, .int j] ∧ DivOk i j ∧ ∀ p, H p = none → Q (.ref p) (upd H p (.tup [.int (i.fdiv j), .int (i.fmod j)]))) := by
  intro pins s σ H xs us Q I r h
  obtain ⟨i, j, rfl, ⟨h1, h2⟩, q⟩ := h
  obtain ⟨u, w', rfl, ⟨t, rfl⟩, ⟨t', rfl⟩⟩ := L2.vals2 r
  refine divmod_int h1 ?_ (.inl (PyProof.noPylong_of_log2 h2))
  have hn : H s.heap.objs.size = none := I.hok.fresh (Nat.le_refl _)
  refine ⟨.ref s.heap.objs.size, _, ?_, rfl, q _ hn⟩
  refine I.laid (fun b o e => Heap.get?_push_of_some _ e) (Nat.le_refl _) ⟨by simp only [List.length_cons, List.length_nil]; rw [sizeLine_eq]; decide, [.int (i.fdiv j) s.toks, .int (i.fmod j) (s.toks + 1)], .cons ⟨_, rfl⟩ (.cons ⟨_, rfl⟩ .nil), ?_⟩
  exact ⟨_, Heap.get?_push_size s.heap rfl, rfl, 0, rfl⟩
def divmodC : CR := fun xs K _ ρ => match xs with
  | [.v (.int i), .v (.int j)] => DivOk i j ∧ K (.v (.tup [.int (i.fdiv j), .int (i.fmod j)])) ρ
  | _ => False
theorem divmodC_mono : MonoC divmodC := fun xs ρ K K' E E' hk _ h => by
  unfold divmodC at h ⊢
  split at h
  · exact ⟨h.1, hk _ _ h.2⟩
  · exact h
theorem divmodC_says : SaysC c (fun xs H Q => ∃ i j, xs = [.int i, .int j] ∧ DivOk i j ∧ ∀ p, H p = none → Q (.ref p) (upd H p (.tup [.int (i.fdiv j), .int (i.fmod j)]))) divmodC := by
  intro p σ M T H M2 H2 ρ2 as vs xs Q E q r h
  unfold divmodC at h
  split at h
  · obtain ⟨v, u, as1, as2, rfl, r1, r2, rfl⟩ := r.two
    refine ⟨_, _, by rw [r1.int, r2.int], h.1, fun pa hp => ?_⟩
    exact h.2 _ _ M2 [] (q.drop.ext (Ext.new hp)) (.v (.tup (.inl (.inl L2.upd_same)) (.cons (.int _) (.cons (.int _) .nil))))
  · exact h.elim
/-- max, min of two ints -/
def mmC (mx : Bool) : CR := fun xs K _ ρ => match xs with
  | [.v (.int i), .v (.int j)] => K (.v (.int (if (if mx then decide (j > i) else decide (j < i)) then j else i))) ρ
  | _ => False
theorem mmC_mono {mx : Bool} : MonoC (mmC mx) := fun xs ρ K K' E E' hk _ h => by
  unfold mmC at h ⊢
  split at h
  · exact hk _ _ h
  · exact h
theorem maxC_says : SaysC c (fun xs H Q => ∃ i j, xs = [.int i, .int j] ∧ Q (.int (if j > i then j else i)) H) (mmC true) := by
  intro p σ M T H M2 H2 ρ2 as vs xs Q E q r h
  unfold mmC at h
  split at h
  · obtain ⟨v, u, as1, as2, rfl, r1, r2, rfl⟩ := r.two
    refine ⟨_, _, by rw [r1.int, r2.int], ?_⟩
    simp only [if_true, decide_eq_true_eq] at h
    exact h _ H2 M2 [] q.drop (.v (.int _))
  · exact h.elim
theorem minC_says : SaysC c (fun xs H Q => ∃ i j, xs = [.int i, .int j] ∧ Q (.int (if j < i then j else i)) H) (mmC false) := by
  intro p σ M T H M2 H2 ρ2 as vs xs Q E q r h
  unfold mmC at h
  split at h
  · obtain ⟨v, u, as1, as2, rfl, r1, r2, rfl⟩ := r.two
    refine ⟨_, _, by rw [r1.int, r2.int], ?_⟩
    simp only [Bool.false_eq_true, if_false, decide_eq_true_eq] at h
    exact h _ H2 M2 [] q.drop (.v (.int _))
  · exact h.elim
end
end VS
namespace VS
open PySem PySem.Spec PyProof.Rows
open L2 (V Hp Cx WX)
theorem u128 {k : Nat} {A : Around} (h : L2.Room k A) : A.units + 128 < cLine := by have := h.un; omega
theorem ej_ty {X : Cx} {c : Fr} {W : WX} {x : Str} {n : String} {pos : Pos} (hg : L2.Gl X x) (hm : X.mg x = none) (hv : bootBuiltins x = some (.type n)) (hn : x ≠ "__name__" := by decide) (hd : (x == ("__debug__" : Str)) = false := by decide) : EJ X c W true (.Name x pos) (cE (.ty n)) :=
  ⟨fun ρ K K' E E' hk _ h => hk _ _ h, PE.imp (L2.pe_bltn (v := .ty n) hg hm hv rfl hn hd) fun σ H Q ⟨ρ, M, T, s, h⟩ => h _ H M [] (Post.same s) (.v (.ty n))⟩
end VS
namespace VS
theorem nm {m : List Bool} {i : Nat} (h : (m[i]? == some true) = false) : m[i]? ≠ some true := fun e => by rw [e] at h; simp at h
end VS
set_option Elab.async false
set_option linter.all false
set_option maxRecDepth 100000
set_option maxHeartbeats 4000000
/-! VS10: what a loop walks; for. Own work. -/
namespace VS
open PySem PySem.Spec PyProof.Rows
open L2 (V Hp HO upd SqL SqT Rd Cx TE TT TA TS TG TGs TI It VK XK WX PE PT PA PS PSs PG PGs PI OpR RelV CallR Sp FnOk atI)
/-- J walks ds from (M, T, H) on, whatever happens to what is owned -/
def IT (c : Fr) (M : Addr → Prop) (T : List Addr) (H : Hp) (J : It) (ds : List D) : Prop := ∀ σ' M' H' ρ', Post c false σ' M T H M' T H' ρ' → ∀ i : Nat,
  (∀ d, ds[i]? = some d → J.go i H' ∧ ∀ x H'', J.yld i H' x H'' → Ext H' H'' ∧ Rep c.g c.Z M' H'' x d) ∧ (ds[i]? = none → J.stop i H')
abbrev IS := Rho → (List D → Rho → Prop) → (Exc → Rho → Prop) → Prop
def MonoI (f : IS) : Prop := ∀ ρ K K' E E', (∀ x ρ', K x ρ' → K' x ρ') → (∀ x ρ', E x ρ' → E' x ρ') → f ρ K E → f ρ K' E'
def rdI (c : Fr) (W : WX) (p : Bool) (f : IS) : TI := fun σ H R => ∃ ρ M T, SR c M T σ H ρ ∧
  f ρ (fun ds ρ' => ∀ J H' M', Post c p σ M T H M' T H' ρ' → IT c M' T H' J ds → R J H')
    (fun x ρ' => ∀ cls dd H' M', Post c false σ M T H M' T H' ρ' → XRep c M' H' cls dd x → W cls dd σ H')
structure IJ (X : Cx) (c : Fr) (W : WX) (p : Bool) (tg e : Expr) (f : IS) : Prop where
  mono : MonoI f
  run : PI X tg e (rdI c W p f)
theorem PI.imp {X : Cx} {tg e : Expr} {t t' : TI} (h : PI X tg e t) (i : ∀ σ H Q, t' σ H Q → t σ H Q) : PI X tg e t' := ⟨fun pins s σ H Q I q => h.run pins s σ H Q I (i σ H Q q)⟩
/-- for -/
def loopS (g : GS) (f : SS) : List D → SS
  | [] => fun ρ k => k.nx ρ
  | d :: ds => fun ρ k => g (.v d) ρ (fun ρ1 => f ρ1 (k.loop fun ρ2 => loopS g f ds ρ2 k))
def forS (it : IS) (g : GS) (f : SS) : SS := fun ρ k => it ρ (fun ds ρ1 => loopS g f ds ρ1 k) k.ex
section
variable {X : Cx} {c : Fr} {W : WX} {p p1 p2 : Bool} {M M1 M' M2 : Addr → Prop} {T T' as as1 as2 : List Addr} {σ σ1 : L2.St} {H H1 H' H2 : Hp} {ρ ρ1 ρ' ρ2 : Rho}
theorem loopS_mono {g : GS} {f : SS} (hg : MonoG g) (hf : MonoS f) : ∀ ds, MonoS (loopS g f ds)
  | [] => fun ρ k k' l h => l.1 _ h
  | d :: ds => fun ρ k k' l h => hg _ _ _ _ (fun ρ1 h => hf _ (k.loop fun ρ2 => loopS g f ds ρ2 k) (k'.loop fun ρ2 => loopS g f ds ρ2 k') ⟨fun ρ2 h => loopS_mono hg hf ds _ _ _ l h, l.2.1, l.2.2.1, l.1, fun ρ2 h => loopS_mono hg hf ds _ _ _ l h⟩ h) h
theorem sj_for {tg iter : Expr} {body : List Stmt} {it : IS} {g : GS} {f : SS} {pos : Pos} (hp : PassesOwn (model X.prog X.w) X.A X.env X.xe) (hc : X.calm = true) (hi : IJ X c W p tg iter it) (hg : GJ X c tg g) (hb : SJs X c W body f)
    (hs : ∀ x, foldedSetIterable iter X.env x = pure x := by intro _; rfl) : SJ X c W (.For tg iter body [] pos) (forS it g f) := by
  refine ⟨fun ρ k k' l q => hi.mono _ _ _ _ _ (fun ds ρ1 q => loopS_mono hg.mono hb.mono ds _ _ _ l q) (fun _ _ => l.2.2.1 _ _) q, PS.imp (L2.ps_for hp hc hi.run hg.run hb.run hs) ?_⟩
  rintro D σ H ⟨ρ, M, T, s, k⟩
  refine ⟨ρ, M, T, s, hi.mono _ _ _ _ _ (fun ds ρ1 k J H1 M1 q1 jt => ?_) (fun x ρ' k => exc_le x ρ' k) k⟩
  refine ⟨fun i m σ2 H2 => ∃ ρ2 M2, Post c false σ2 M1 T H1 M2 T H2 ρ2 ∧ m = ds.length - i ∧ i ≤ ds.length ∧ loopS g f (ds.drop i) ρ2 (skOf c W D M2 T H2), ⟨ds.length, ρ1, M1, Post.refl q1.sr, by simp, Nat.zero_le _, ?_⟩, ?_⟩
  · rw [List.drop_zero]; exact loopS_mono hg.mono hb.mono ds _ _ _ (skOf_after q1) k
  · rintro i m σ2 H2 ⟨ρ2, M2, q2, rfl, hi', k⟩
    obtain ⟨it1, it2⟩ := jt σ2 M2 H2 ρ2 q2 i
    cases e : ds[i]? with
    | none =>
      refine .inl ⟨it2 e, ?_⟩
      have hd : ds.drop i = [] := by rw [List.drop_eq_nil_iff]; exact List.getElem?_eq_none_iff.mp e
      rw [hd] at k
      exact k σ2 H2 M2 (Post.refl q2.sr)
    | some d =>
      obtain ⟨go, yl⟩ := it1 d e
      obtain ⟨hlt, ed⟩ := List.getElem?_eq_some_iff.mp e
      have hd : ds.drop i = d :: ds.drop (i + 1) := by rw [List.drop_eq_getElem_cons hlt, ed]
      rw [hd] at k
      refine .inr ⟨go, fun σ3 H3 => ∃ ρ3 M3, Post c false σ3 M1 T H1 M3 T H3 ρ3 ∧ loopS g f (ds.drop (i + 1)) ρ3 (skOf c W D M3 T H3), fun σ3 H3 ⟨ρ3, M3, q3, k3⟩ => ⟨ds.length - (i + 1), by omega, ρ3, M3, q3, rfl, hlt, k3⟩, fun x H' y => ?_⟩
      obtain ⟨x2, rx⟩ := yl x H' y
      refine ⟨ρ2, M2, T, .v d, [], q2.sr.ext x2, .v rx, hg.mono _ _ _ _ (fun ρ3 k σ3 M3 s3 hM => ?_) k⟩
      have q3 : Post c false σ3 M2 T H2 M3 T H' ρ3 := ⟨s3, fun b o eb _ => x2 b o eb, fun a h => .inl (hM a h), fun e => nomatch e⟩
      refine ⟨ρ3, M3, T, s3, hb.mono _ ((skOf c W D M2 T H2).loop fun ρ4 => loopS g f (ds.drop (i + 1)) ρ4 (skOf c W D M2 T H2)) _ ⟨fun ρ4 k σ4 H4 M4 q4 => ?_, fun x ρ4 k => (skOf_after (W := W) (De := D) q3).2.1 x ρ4 k, fun x ρ4 k => (skOf_after (W := W) (De := D) q3).2.2.1 x ρ4 k, fun ρ4 k => (skOf_after (W := W) (De := D) q3).1 ρ4 k, fun ρ4 k σ4 H4 M4 q4 => ?_⟩ k⟩
      · have q34 := q3.trans q4 fun _ z => z
        exact ⟨ρ4, M4, q2.trans q34 fun _ z => z, loopS_mono hg.mono hb.mono _ _ _ _ (skOf_after q34) k⟩
      · have q34 := q3.trans q4 fun _ z => z
        exact ⟨ρ4, M4, q2.trans q34 fun _ z => z, loopS_mono hg.mono hb.mono _ _ _ _ (skOf_after q34) k⟩
/-! ### lists, tuples -/
theorem IT.list {a : Addr} {st : Bool} {ds : List D} (s : SR c M T σ H ρ) (r : Rep c.g c.Z M H (.ref a) (.lst st ds)) : IT c M T H (L2.Itl c.g.K a) ds := by
  intro σ' M' H' ρ' q i
  have r' := r.moved (q.mv s)
  cases r' with
  | lst l rs =>
    rename_i vs
    refine ⟨fun d e => ?_, fun e => ⟨vs, l.sq, by rw [rs.length]; exact List.getElem?_eq_none_iff.mp e⟩⟩
    obtain ⟨v, h1, h2⟩ := rs.get e
    refine ⟨⟨vs, v, l.sq, h1⟩, fun x H'' y => ?_⟩
    obtain ⟨rfl, y⟩ := y
    have := y vs l.sq
    rw [h1] at this; cases this
    exact ⟨Ext.refl _, h2⟩
theorem IT.tup {a : Addr} {ds : List D} (s : SR c M T σ H ρ) (r : Rep c.g c.Z M H (.ref a) (.tup ds)) : IT c M T H (L2.Itt c.g.K a) ds := by
  intro σ' M' H' ρ' q i
  have r' := r.moved (q.mv s)
  cases r' with
  | tup l rs =>
    rename_i vs
    refine ⟨fun d e => ?_, fun e => ⟨vs, l, by rw [rs.length]; exact List.getElem?_eq_none_iff.mp e⟩⟩
    obtain ⟨v, h1, h2⟩ := rs.get e
    refine ⟨⟨vs, v, l, h1⟩, fun x H'' y => ?_⟩
    obtain ⟨rfl, y⟩ := y
    have := y vs l
    rw [h1] at this; cases this
    exact ⟨Ext.refl _, h2⟩
/-- a list that is looked at no more: its items -/
def stL : EV → Option (List D)
  | .v (.lst _ ds) => some ds
  | .m (.l ds) => some ds
  | _ => none
theorem VRg.stL {v : V} {x : EV} {ds : List D} (q : Post c p σ M T H M' (as ++ T) H' ρ') (r : VR c M' H' v x as) (e : stL x = some ds) : ∃ a st M2, v = .ref a ∧ Post c p σ M T H M2 T H' ρ' ∧ Rep c.g c.Z M2 H' (.ref a) (.lst st ds) := by
  cases r with
  | v r =>
    cases r with
    | lst l r => cases e; exact ⟨_, _, M', rfl, q, .lst l r⟩
    | _ => cases e
  | b _ _ => cases e
  | m r =>
    cases r with
    | l h r =>
      cases e
      obtain ⟨q2, r2⟩ := q.frz (.l h r) rfl
      exact ⟨_, _, _, rfl, q2, r2⟩
    | _ => cases e
def itL (f : ES) : IS := fun ρ K E => f ρ (fun x ρ' => match stL x with
  | some ds => K ds ρ'
  | none => False) E
def itT (f : ES) : IS := fun ρ K E => f ρ (fun x ρ' => match asT x with
  | some ds => K ds ρ'
  | none => False) E
/-! ### ranges -/
def rngD (lo : Int) (n : Nat) : List D := (List.range n).map fun i => .int (lo + (i : Nat))
theorem IT.range {lo : Int} {n : Nat} : IT c M T H (L2.Itr lo n) (rngD lo n) := by
  intro σ' M' H' ρ' q i
  have hl : (rngD lo n).length = n := by unfold rngD; rw [List.length_map, List.length_range]
  refine ⟨fun d e => ?_, fun e => by have := List.getElem?_eq_none_iff.mp e; rw [hl] at this; exact this⟩
  obtain ⟨hi, ed⟩ := List.getElem?_eq_some_iff.mp e
  rw [hl] at hi
  have e2 : (rngD lo n)[i]? = some (.int (lo + (i : Nat))) := by unfold rngD; rw [List.getElem?_map, List.getElem?_range hi]; rfl
  rw [e2] at e; cases e
  refine ⟨hi, fun x H'' y => ?_⟩
  obtain ⟨rfl, rfl⟩ := y
  exact ⟨Ext.refl _, .int _⟩
def itR1 (g : AS) : IS := fun ρ K E => g ρ (fun xs ρ' => match xs with
  | [.v (.int j)] => (-(2 ^ 62) ≤ j ∧ j < 2 ^ 62) ∧ K (rngD 0 j.toNat) ρ'
  | _ => False) E
theorem ij_range1 {tg a : Expr} {g : AS} {pp pos : Pos} (hg : L2.Gl X "range") (hm : X.mg "range" = none) (ha : AJ X c W p [a] g) (hs : starEach [a] X.env = [(false, eval a X.env)] := by rfl) : IJ X c W p tg (.Call (.Name "range" pp) [a] [] pos) (itR1 g) := by
  refine ⟨fun ρ K K' E E' hk he q => ha.mono _ _ _ _ _ (fun xs ρ' q => by
    split at q
    · exact ⟨q.1, hk _ _ q.2⟩
    · exact q) he q, PI.imp (L2.pi_range1 hg hm ha.run hs) ?_⟩
  rintro σ H R ⟨ρ, M, T, s, k⟩
  refine ⟨ρ, M, T, s, ha.mono _ _ _ _ _ (fun xs ρ' k vs H' M' as q r => ?_) (fun _ _ h => h) k⟩
  split at k
  · obtain ⟨v, rfl, r1⟩ := r.one
    exact ⟨_, by rw [r1.int], k.1.1, k.1.2, k.2 _ H' M' q.drop .range⟩
  · exact k.elim
def itR2 (g : AS) : IS := fun ρ K E => g ρ (fun xs ρ' => match xs with
  | [.v (.int i), .v (.int j)] => (-(2 ^ 62) ≤ i ∧ i < 2 ^ 62 ∧ -(2 ^ 62) ≤ j ∧ j < 2 ^ 62) ∧ K (rngD i (j - i).toNat) ρ'
  | _ => False) E
/-! ### enumerate, zip, reversed of lists -/
def numd : Nat → List D → List D
  | _, [] => []
  | i, d :: ds => .tup [.int (i : Nat), d] :: numd (i + 1) ds
theorem numd_get : ∀ (ds : List D) (k i : Nat), (numd k ds)[i]? = (ds[i]?).map fun d => .tup [.int ((k + i : Nat) : Int), d]
  | [], _, _ => by simp [numd]
  | d :: ds, k, 0 => by simp [numd]
  | d :: ds, k, i + 1 => by
    have := numd_get ds (k + 1) i
    have e : k + 1 + i = k + (i + 1) := by omega
    rw [e] at this
    simpa [numd] using this
theorem IT.enum {a : Addr} {st : Bool} {ds : List D} (s : SR c M T σ H ρ) (r : Rep c.g c.Z M H (.ref a) (.lst st ds)) : IT c M T H (L2.Ite c.g.K a) (numd 0 ds) := by
  intro σ' M' H' ρ' q i
  have r' := r.moved (q.mv s)
  cases r' with
  | lst l rs =>
    rename_i vs
    have hg := numd_get ds 0 i
    refine ⟨fun d e => ?_, fun e => ⟨vs, l.sq, ?_⟩⟩
    · cases e2 : ds[i]? with
      | none => rw [hg, e2] at e; cases e
      | some d0 =>
        rw [hg, e2] at e
        simp only [Option.map_some, Option.some.injEq, Nat.zero_add] at e
        obtain ⟨v, h1, h2⟩ := rs.get e2
        refine ⟨⟨vs, v, l.sq, h1⟩, fun x H'' y => ?_⟩
        obtain ⟨T', x', rfl, hT, rfl, y⟩ := y
        have := y vs l.sq
        rw [h1] at this; cases this
        refine ⟨Ext.new hT, ?_⟩
        rw [← e]
        exact .tup (.inl (.inl L2.upd_same)) (.cons (.int _) (.cons (h2.ext (Ext.new hT)) .nil))
    · cases e2 : ds[i]? with
      | none => rw [rs.length]; exact List.getElem?_eq_none_iff.mp e2
      | some d0 => rw [hg, e2] at e; cases e
def itE (g : AS) : IS := fun ρ K E => g ρ (fun xs ρ' => match xs with
  | [x] => (match stL x with
    | some ds => K (numd 0 ds) ρ'
    | none => False)
  | _ => False) E
theorem ij_enum {a : Expr} {g : AS} {pp pos tpos : Pos} {elts : List Expr} {kk : Nat} (hK : X.K = c.g.K) (hg : L2.Gl X "enumerate") (hm : X.mg "enumerate" = none) (ha : AJ X c W p [a] g) (hs : starEach [a] X.env = [(false, eval a X.env)] := by rfl) : IJ X c W p (.Tuple elts kk tpos) (.Call (.Name "enumerate" pp) [a] [] pos) (itE g) := by
  refine ⟨fun ρ K K' E E' hk he q => ha.mono _ _ _ _ _ (fun xs ρ' q => by
    split at q
    · split at q
      · exact hk _ _ q
      · exact q
    · exact q) he q, PI.imp (L2.pi_enum hg hm ha.run hs) ?_⟩
  rintro σ H R ⟨ρ, M, T, s, k⟩
  refine ⟨ρ, M, T, s, ha.mono _ _ _ _ _ (fun xs ρ' k vs H' M' as q r => ?_) (fun _ _ h => h) k⟩
  split at k
  · split at k
    · rename_i ds e
      obtain ⟨v, rfl, r1⟩ := r.one
      obtain ⟨a, st, M2, rfl, q2, r2⟩ := VRg.stL q r1 e
      cases r2 with
      | lst l rs => exact ⟨a, _, rfl, hK ▸ l.sq, by rw [hK]; exact k _ H' M2 q2 (.enum q2.sr (.lst l rs))⟩
    · exact k.elim
  · exact k.elim
def zipd : List D → List D → List D
  | d :: ds, e :: es => .tup [d, e] :: zipd ds es
  | _, _ => []
/-- both lists shared -/
def shL : EV → Option (List D)
  | .v (.lst _ ds) => some ds
  | _ => none
def itZ (g : AS) : IS := fun ρ K E => g ρ (fun xs ρ' => match xs with
  | [x, y] => (match shL x, shL y with
    | some ds, some es => K (zipd ds es) ρ'
    | _, _ => False)
  | _ => False) E
theorem IT.rev {a : Addr} {st : Bool} {ds : List D} {n : Nat} (s : SR c M T σ H ρ) (r : Rep c.g c.Z M H (.ref a) (.lst st ds)) (hn : n = ds.length) : IT c M T H (L2.Itv c.g.K a n) ds.reverse := by
  intro σ' M' H' ρ' q i
  have r' := r.moved (q.mv s)
  cases r' with
  | lst l rs =>
    rename_i vs
    refine ⟨fun d e => ?_, fun e => by have := List.getElem?_eq_none_iff.mp e; rw [List.length_reverse] at this; show n ≤ i; omega⟩
    obtain ⟨hi, _⟩ := List.getElem?_eq_some_iff.mp e
    rw [List.length_reverse] at hi
    rw [List.getElem?_reverse hi] at e
    obtain ⟨v, h1, h2⟩ := rs.get e
    rw [← hn] at h1
    refine ⟨⟨by omega, vs, v, l.sq, h1⟩, fun x H'' y => ?_⟩
    obtain ⟨rfl, y⟩ := y
    have := y vs l.sq
    rw [h1] at this; cases this
    exact ⟨Ext.refl _, h2⟩
def itV (g : AS) : IS := fun ρ K E => g ρ (fun xs ρ' => match xs with
  | [x] => (match stL x with
    | some ds => K ds.reverse ρ'
    | none => False)
  | _ => False) E
theorem ij_rev {tg a : Expr} {g : AS} {pp pos : Pos} (hK : X.K = c.g.K) (hg : L2.Gl X "reversed") (hm : X.mg "reversed" = none) (ha : AJ X c W p [a] g) (hs : starEach [a] X.env = [(false, eval a X.env)] := by rfl) : IJ X c W p tg (.Call (.Name "reversed" pp) [a] [] pos) (itV g) := by
  refine ⟨fun ρ K K' E E' hk he q => ha.mono _ _ _ _ _ (fun xs ρ' q => by
    split at q
    · split at q
      · exact hk _ _ q
      · exact q
    · exact q) he q, PI.imp (L2.pi_reversed hg hm ha.run hs) ?_⟩
  rintro σ H R ⟨ρ, M, T, s, k⟩
  refine ⟨ρ, M, T, s, ha.mono _ _ _ _ _ (fun xs ρ' k vs H' M' as q r => ?_) (fun _ _ h => h) k⟩
  split at k
  · split at k
    · rename_i ds e
      obtain ⟨v, rfl, r1⟩ := r.one
      obtain ⟨a, st, M2, rfl, q2, r2⟩ := VRg.stL q r1 e
      cases r2 with
      | lst l rs => exact ⟨a, _, rfl, hK ▸ l.sq, by rw [hK, rs.length]; exact k _ H' M2 q2 (.rev q2.sr (.lst l rs) rfl)⟩
    · exact k.elim
  · exact k.elim
end
end VS
set_option Elab.async false
set_option linter.all false
set_option maxRecDepth 100000
set_option maxHeartbeats 4000000
/-! VS11: changes of a list that a slot owns; calls of defs that change what a slot owns. Own work. -/
namespace VS
open PySem PySem.Spec PyProof.Rows
open L2 (V Hp HO upd SqL SqT Rd Cx TE TT TA TS TG TGs TI It VK XK WX PE PT PA PS PSs PG PGs PI OpR RelV CallR Sp FnOk atI MtR)
section
variable {X : Cx} {c : Fr} {W : WX} {p p1 p2 : Bool} {M M1 M' M2 : Addr → Prop} {T T' as as1 as2 : List Addr} {σ σ1 : L2.St} {H H1 H' H2 : Hp} {ρ ρ1 ρ' ρ2 : Rho}
/-- a list that the slot i owns, and what comes of changing it -/
theorem SR.lst {i : Nat} {ds : List D} (s : SR c M T σ H ρ) (e : ρ[i]? = some (.l ds)) : ∃ a vs, σ[i]? = some (some (.ref a)) ∧ H a = some (.lst vs) ∧ Reps c.g c.Z M H vs ds ∧ M a ∧
    ∀ vs' ds', Reps c.g c.Z M H vs' ds' → Post c false σ M T H M T (upd H a (.lst vs')) (ρ.set i (.l ds')) := by
  obtain ⟨Ms, r, nd, al⟩ := s.slots
  obtain ⟨v, as, Ms', h1, h2, h3, h4, h5, h6⟩ := r.out e (by simp)
  obtain ⟨k1, k2, k3⟩ := h6 (List.nodup_append.mp nd).1
  cases h2 with
  | @l a vs _ hH rs =>
  have hMa : M a := al a (List.mem_append_left _ (h4 a (by simp)))
  refine ⟨a, vs, h1, hH, rs, hMa, fun vs' ds' rs' => ?_⟩
  have mv : Moved (fun b => b = a) M M H (upd H a (.lst vs')) := ⟨fun b o eb hb => by rw [L2.upd_ne hb]; exact eb, fun b hb => by rw [hb]; exact .inl ⟨_, hH⟩, fun b hb => by rw [hb]; exact hMa, fun b hb => .inl hb⟩
  have r3 := h3.moved mv fun b hb z => k3 a (by simp) (z ▸ hb)
  obtain ⟨Ms2, r4, m2, n2⟩ := RepS.put (.l (L2.upd_same) (rs'.moved mv)) r3 (i := i) (by rw [List.length_set]; exact (List.getElem?_eq_some_iff.mp e).1)
  rw [List.set_set, set_get h1] at r4
  have hsub : ∀ b ∈ Ms2, b ∈ Ms := fun b hb => by
    rcases m2 b hb with z | z
    · exact h5 b z
    · have : b = a := by simpa using z
      rw [this]; exact h4 a (by simp)
  have ty : ∀ b, M b → Typed (upd H a (.lst vs')) b := fun b hb => by
    by_cases z : b = a
    · rw [z]; exact .inl ⟨_, L2.upd_same⟩
    · rcases s.ty b hb with ⟨_, q⟩ | ⟨_, _, _, q⟩
      · exact .inl ⟨_, by rw [L2.upd_ne z]; exact q⟩
      · exact .inr ⟨_, _, _, by rw [L2.upd_ne z]; exact q⟩
  obtain ⟨n1, n3, n4⟩ := List.nodup_append.mp nd
  have haT : a ∉ T := fun z => n4 a (h4 a (by simp)) a z rfl
  refine ⟨⟨⟨Ms2, r4, List.nodup_append.mpr ⟨n2 k2 (by simp) k3, n3, fun b hb d hd => n4 b (hsub b hb) d hd⟩, fun b hb => ?_⟩, ty, s.src, fun b o eb hb => ?_, s.pin, s.ln⟩, fun b o eb hb => ?_, fun b hb => .inl hb, fun e => nomatch e⟩
  · rcases List.mem_append.mp hb with z | z
    · exact al b (List.mem_append_left _ (hsub b z))
    · exact al b (List.mem_append_right _ z)
  · by_cases z : b = a
    · rcases s.src a hMa with q | q
      · exact absurd (z ▸ q) hb
      · rw [z] at eb; rw [q] at eb; cases eb
    · rw [L2.upd_ne z]; exact s.keep b o eb hb
  · have z : b ≠ a := fun z => haT (z ▸ hb (z ▸ hMa))
    rw [L2.upd_ne z]; exact eb
/-- shared from here on -/
def evD : EV → Option D
  | .v d => some d
  | .m s => frSl s
  | _ => none
theorem VRg.evD {v : V} {x : EV} {d : D} (q : Post c p σ M T H M' (as ++ T') H' ρ') (r : VR c M' H' v x as) (e : evD x = some d) :
    ∃ M2, Post c p σ M T H M2 T' H' ρ' ∧ Rep c.g c.Z M2 H' v d ∧ (∀ a, M2 a → M' a) ∧ ∀ a, M' a → a ∉ as → M2 a := by
  cases r with
  | v r => cases e; exact ⟨M', q, r, fun _ h => h, fun _ h _ => h⟩
  | b _ _ => cases e
  | m r =>
    refine ⟨fun a => M' a ∧ a ∉ as, ?_, ?_, fun a h => h.1, fun a h n => ⟨h, n⟩⟩
    · obtain ⟨Ms, rs, nd, al⟩ := q.sr.slots
      obtain ⟨n1, n2, n3⟩ := List.nodup_append.mp nd
      obtain ⟨m1, m2, m3⟩ := List.nodup_append.mp n2
      refine ⟨⟨⟨Ms, rs.re (fun _ _ n z => n z.1) (fun _ _ _ z => z), List.nodup_append.mpr ⟨n1, m2, fun a ha b hb => n3 a ha b (List.mem_append_right _ hb)⟩, fun a ha => ?_⟩, fun a h => q.sr.ty a h.1, fun a h => q.sr.src a h.1, q.sr.keep, q.sr.pin, q.sr.ln⟩, q.keep, fun a h => q.new a h.1, q.pu⟩
      rcases List.mem_append.mp ha with z | z
      · exact ⟨al a (List.mem_append_left _ z), fun y => n3 a z a (List.mem_append_left _ y) rfl⟩
      · exact ⟨al a (List.mem_append_right _ (List.mem_append_right _ z)), fun y => m3 a y a z rfl⟩
    · refine (r.re (M' := fun a => M' a ∧ a ∉ as) (fun _ _ n z => n z.1) (fun _ _ _ z => z)).freeze e fun a ha => ⟨fun z => z.2 ha, ?_⟩
      obtain ⟨Ms, _, _, al⟩ := q.sr.slots
      exact q.sr.noZ (al a (List.mem_append_right _ (List.mem_append_left _ ha)))
/-! ### methods of a list that a slot owns -/
/-- name.method(..): R tells, of the arguments and the list, what is yielded and what becomes of the list -/
abbrev LR := List EV → List D → (EV → List D → Prop) → Prop
def methL (i : Nat) (R : LR) (g : AS) : ES := fun ρ K E => (∃ ds, ρ[i]? = some (.l ds)) ∧ g ρ (fun xs ρ' => match ρ'[i]? with
  | some (.l ds) => R xs ds (fun x ds' => K x (ρ'.set i (.l ds')))
  | _ => False) E
def MonoL (R : LR) : Prop := ∀ xs ds K K', (∀ x ds', K x ds' → K' x ds') → R xs ds K → R xs ds K'
/-- the reading r does what R says, from a state -/
def SaysL (c : Fr) (r : V → List V → Hp → VK → Prop) (R : LR) : Prop := ∀ σ (M : Addr → Prop) T H M1 as H1 ρ1 i ds vs xs Q, Post c false σ M T H M1 (as ++ T) H1 ρ1 → ρ1[i]? = some (.l ds) → VRs c M1 H1 vs xs as →
  R xs ds (fun x ds' => ∀ v H' M' as', Post c false σ M T H M' (as' ++ T) H' (ρ1.set i (.l ds')) → VR c M' H' v x as' → Q v H') → ∀ a, σ[i]? = some (some (.ref a)) → r (.ref a) vs H1 Q
theorem methL_mono {i : Nat} {R : LR} {g : AS} (hR : MonoL R) (hg : MonoA g) : Mono (methL i R g) := fun ρ K K' E E' hk he q => ⟨q.1, hg _ _ _ _ _ (fun xs ρ' q => by
  split at q
  · exact hR _ _ _ _ (fun _ _ => hk _ _) q
  · exact q) he q.2⟩
theorem ej_methL {id name : String} {i : Nat} {R : LR} {r : V → List V → Hp → VK → Prop} {o e : Expr} {es : List Expr} {g : AS} {apos cpos : Pos} (hK : X.K = c.g.K) (hR : MonoL R) (hS : SaysL c r R) (slot : Slot "list" name id) (hty : typeOf (.builtin id) = pure (.type "method_descriptor")) (hm : MtR X id r) (ho : PE X o (L2.tVar i)) (ha : AJ X c W p (e :: es) g)
    (hbase : attributeBase o name X.env (eval o X.env) = eval o X.env := by rfl)
    (hfew : ((backTo cpos (starEach (e :: es) X.env)).all (fun x => !x.1) && (backToKw cpos (keywordEach [] X.env)).all (fun x => x.1.isSome)
      && decide ((e :: es).length + ([] : List Keyword).length + (if ([] : List Keyword).isEmpty then 0 else 1) < 30)) = true := by rfl)
    (hline : (apos.endLine == cpos.line) = true := by rfl) (hs : starEach (e :: es) X.env = (false, eval e X.env) :: starEach es X.env := by rfl) (hplain : (backTo cpos (starEach es X.env)).any (·.1) = false := by rfl) :
    EJ X c W false (.Call (.Attribute o name apos) (e :: es) [] cpos) (methL i R g) := by
  refine ⟨methL_mono hR ha.mono, PE.imp (L2.pe_bm PySem.F.plainAttrs_list slot hty hm ho ha.run hbase hfew hline hs hplain) ?_⟩
  rintro σ H Q ⟨ρ, M, T, s, ⟨ds0, e0⟩, k⟩
  obtain ⟨a, vs0, hv, hH, _, _, _⟩ := s.lst e0
  refine ⟨.ref a, hv, .inl ⟨rfl, vs0, .inl (.inl hH)⟩, ρ, M, T, s, ha.mono _ _ _ _ _ (fun xs ρ' k vs H' M' as q r => ?_) (fun _ _ h => h) k⟩
  split at k
  · rename_i ds e1
    exact hS σ M T H M' as H' ρ' i ds vs xs Q q.weak e1 r k a hv
  · exact k.elim
theorem Post.then (q1 : Post c false σ M T H M1 T1 H1 ρ1) (q2 : Post c p σ M1 T1 H1 M2 T2 H2 ρ2) (ht : ∀ x ∈ T, x ∈ T1) : Post c false σ M T H M2 T2 H2 ρ2 := (q1.trans q2 ht).weak
def appL : LR := fun xs ds K => match xs with
  | [x] => (match evD x with
    | some d => ds.length < 1000000 ∧ K (.v .non) (ds ++ [d])
    | none => False)
  | _ => False
theorem appL_mono : MonoL appL := fun xs ds K K' hk h => by
  unfold appL at h ⊢
  split at h
  · split at h
    · exact ⟨h.1, hk _ _ h.2⟩
    · exact h
  · exact h
theorem lt_line {n : Nat} (h : n < 1000000) : n < sizeLine := Nat.lt_of_lt_of_le h (by decide)
theorem appL_says : SaysL c L2.rAppend appL := by
  intro σ M T H M1 as H1 ρ1 i ds vs xs Q q e1 r h a hv
  unfold appL at h
  split at h
  · split at h
    · rename_i d ed
      obtain ⟨v, rfl, r1⟩ := r.one
      obtain ⟨M2, q2, r2, _, _⟩ := VRg.evD q r1 ed
      obtain ⟨a', vs', hv', hH, rs, hMa, upd'⟩ := q2.sr.lst e1
      rw [hv] at hv'; cases hv'
      refine ⟨a, vs', v, rfl, rfl, hH, by rw [rs.length]; exact lt_line h.1, ?_⟩
      have q3 := upd' (vs' ++ [v]) (ds ++ [d]) (rs.append (.cons r2 .nil))
      exact h.2 _ _ M2 [] (q2.then q3 fun _ z => z) (.v .non)
    · exact h.elim
  · exact h.elim
/-- name.append(e) -/
theorem ej_append {i : Nat} {o e : Expr} {g : AS} {apos cpos : Pos} (hK : X.K = c.g.K) (ho : PE X o (L2.tVar i)) (ha : AJ X c W p [e] g) (hbase : attributeBase o "append" X.env (eval o X.env) = eval o X.env := by rfl)
    (hfew : ((backTo cpos (starEach [e] X.env)).all (fun x => !x.1) && (backToKw cpos (keywordEach [] X.env)).all (fun x => x.1.isSome) && decide ([e].length + ([] : List Keyword).length + (if ([] : List Keyword).isEmpty then 0 else 1) < 30)) = true := by rfl)
    (hline : (apos.endLine == cpos.line) = true := by rfl) (hs : starEach [e] X.env = (false, eval e X.env) :: starEach [] X.env := by rfl) : EJ X c W false (.Call (.Attribute o "append" apos) [e] [] cpos) (methL i appL g) :=
  ej_methL hK appL_mono appL_says PySem.F.slot_list_append PySem.F.type_list_append L2.mt_append ho ha hbase hfew hline hs rfl
def insL : LR := fun xs ds K => match xs with
  | [.v (.int k), x] => (match evD x with
    | some d => (ds.length < 1000000 ∧ 0 ≤ k ∧ k < 2 ^ 62) ∧ K (.v .non) (ds.take k.toNat ++ [d] ++ ds.drop k.toNat)
    | none => False)
  | _ => False
def clrL : LR := fun xs _ K => match xs with
  | [] => K (.v .non) []
  | _ => False
def popL : LR := fun xs ds K => match xs with
  | [] => (match ds[ds.length - 1]? with
    | some d => K (.v d) ds.dropLast
    | none => False)
  | _ => False
theorem Reps.dropLast {g : Ge} {Z : Addr → Prop} {vs : List V} {ds : List D} (r : Reps g Z M H vs ds) : Reps g Z M H vs.dropLast ds.dropLast := by
  rw [List.dropLast_eq_take, List.dropLast_eq_take, r.length]
  exact r.take _
/-- a list that is tracked: a look at an owned one, or a new one -/
def trL : EV → Option (List D)
  | .b ds => some ds
  | .m (.l ds) => some ds
  | _ => none
def extL : LR := fun xs ds K => match xs with
  | [x] => (match trL x with
    | some es => ds.length + es.length ≤ 1000000 ∧ K (.v .non) (ds ++ es)
    | none => False)
  | _ => False
theorem extL_mono : MonoL extL := fun xs ds K K' hk h => by
  unfold extL at h ⊢
  split at h
  · split at h
    · exact ⟨h.1, hk _ _ h.2⟩
    · exact h
  · exact h
theorem extL_says : SaysL c L2.rExtend extL := by
  intro σ M T H M1 as H1 ρ1 i ds vs xs Q q e1 r h a hv
  unfold extL at h
  split at h
  · split at h
    · rename_i es ed
      obtain ⟨v, rfl, r1⟩ := r.one
      obtain ⟨a', vs', hv', hH, rs, hMa, upd'⟩ := q.sr.lst e1
      rw [hv] at hv'; cases hv'
      have key : ∃ b zs, v = .ref b ∧ H1 b = some (.lst zs) ∧ Reps c.g c.Z M1 H1 zs es := by
        cases r1 with
        | v _ => cases ed
        | b l rr => cases ed; exact ⟨_, _, rfl, l, rr⟩
        | m rr =>
          cases rr with
          | l l rr => cases ed; exact ⟨_, _, rfl, l, rr⟩
          | _ => cases ed
      obtain ⟨b, zs, rfl, hb, rz⟩ := key
      refine ⟨a, b, vs', zs, rfl, rfl, hH, hb, by rw [rs.length, rz.length]; exact le_line h.1 (by decide), ?_⟩
      exact h.2 _ _ M1 [] (Post.then q (upd' _ _ (rs.append rz)) fun x hx => List.mem_append_right _ hx).drop (.v .non)
    · exact h.elim
  · exact h.elim
/-! ### name[i] = value, the list owned by the slot -/
def setixS (p2 : Bool) (i : Nat) (f h : ES) : SS := fun ρ k => f ρ (fun x ρ1 => (∃ ds1, ρ1[i]? = some (.l ds1)) ∧ h ρ1 (fun y ρ2 => match evD x, y, ρ2[i]? with
  | some d, .v (.int n), some (.l ds) => (match L2.ixN ds.length n with
    | some j => okB p2 x ∧ k.nx (ρ2.set i (.l (ds.set j d)))
    | none => False)
  | _, _, _ => False) k.ex) k.ex
theorem sj_setix {i : Nat} {o e ix : Expr} {f h : ES} {pos tpos : Pos} (ho : PE X o (L2.tVar i)) (he : EJ X c W p1 e f) (hi : EJ X c W p2 ix h)
    (ha : ∀ v, assign (.Subscript o ix tpos) X.env v = (do
      let ov ← holding [v] (eval o X.env)
      let iv ← holding [v, ov] (eval ix X.env)
      standAt tpos
      holding [v, ov, iv] (setItem ov iv v)
      release [v, ov, iv] []) := by intro _; rfl)
    (hs : swapsWithSole [.Subscript o ix tpos] e pos.line X.env = pure false := by rfl) (hw : swappedStores [.Subscript o ix tpos] e X.env = pure none := by rfl) (h1 : (assignEach [.Subscript o ix tpos] X.env).map (·.2) = [assign (.Subscript o ix tpos) X.env] := by rfl) :
    SJ X c W (.Assign [.Subscript o ix tpos] e pos) (setixS p2 i f h) := by
  refine ⟨fun ρ k k' l q => he.mono _ _ _ _ _ (fun x ρ1 q => ⟨q.1, hi.mono _ _ _ _ _ (fun y ρ2 q => ?_) (fun _ _ => l.2.2.1 _ _) q.2⟩) (fun _ _ => l.2.2.1 _ _) q, PS.imp (L2.ps_asg he.run (L2.pg_sub ho hi.run L2.set_list ha) hs hw h1) ?_⟩
  · split at q
    · split at q
      · exact ⟨q.1, l.1 _ q.2⟩
      · exact q
    · exact q
  · rintro D σ H ⟨ρ, M, T, s, k⟩
    refine ⟨ρ, M, T, s, he.mono _ _ _ _ _ (fun x ρ1 k v H1 M1 as1 q1 r1 => ?_) (fun x ρ' k => exc_le x ρ' k) k⟩
    obtain ⟨⟨ds1, e1⟩, k⟩ := k
    obtain ⟨a, vs1, hv, _, _, _, _⟩ := q1.sr.lst e1
    refine ⟨.ref a, hv, ρ1, M1, as1 ++ T, q1.sr, hi.mono _ _ _ _ _ (fun y ρ2 k u H2 M2 as2 q2 r2 => ?_) (fun x ρ2 k cls dd H2 M2 q2 r2 => k σ cls dd H2 M2 (q1.trans q2 fun x hx => List.mem_append_right _ hx).weak.drop r2) k⟩
    split at k
    · rename_i d n ds ed e2
      split at k
      · rename_i j ej
        have r1' := r1.next q1.sr q2 (fun b hb => List.mem_append_left _ hb) k.1
        have en : as2 = [] := by cases r2; rfl
        subst en
        have q12 : Post c false σ M T H M2 (as1 ++ T) H2 ρ2 := (q1.trans q2 fun x hx => List.mem_append_right _ hx).weak
        obtain ⟨M3, q3, rd, _, _⟩ := VRg.evD q12 r1' ed
        obtain ⟨a', vs', hv', hH, rs, hMa, upd'⟩ := q3.sr.lst e2
        rw [hv] at hv'; cases hv'
        refine ⟨a, vs', n, j, rfl, r2.int, hH, by rw [rs.length]; exact ej, ?_⟩
        exact k.2 σ _ M3 (q3.then (upd' _ _ (Reps.set rd j rs)) fun _ z => z)
      · exact k.elim
    · exact k.elim
end
end VS
set_option Elab.async false
set_option linter.all false
set_option maxRecDepth 100000
set_option maxHeartbeats 4000000
/-! VS12: calls of defs that change what a slot owns. Own work. -/
namespace VS
open PySem PySem.Spec PyProof.Rows
open L2 (V Hp HO upd SqL SqT Rd Cx TE TT TA TS TG TGs TI It VK XK WX PE PT PA PS PSs PG PGs PI OpR RelV CallR Sp FnOk atI MtR)
/-- arguments of which one is the slot i -/
abbrev AIo := Rho → (List EV → List EV → Rho → Prop) → (Exc → Rho → Prop) → Prop
def MonoAI (f : AIo) : Prop := ∀ ρ K K' E E', (∀ x y ρ', K x y ρ' → K' x y ρ') → (∀ x ρ', E x ρ' → E' x ρ') → f ρ K E → f ρ K' E'
def rdAI (c : Fr) (W : WX) (i : Nat) (f : AIo) : TA := fun σ H Q => ∃ ρ M T, SR c M T σ H ρ ∧
  f ρ (fun xs ys ρ' => ∀ vs us v H' M' as, Post c false σ M T H M' (as ++ T) H' ρ' → VRs c M' H' (vs ++ us) (xs ++ ys) as → vs.length = xs.length → σ[i]? = some (some v) → Q (vs ++ v :: us) H')
    (fun x ρ' => ∀ cls dd H' M', Post c false σ M T H M' T H' ρ' → XRep c M' H' cls dd x → W cls dd σ H')
structure AJI (X : Cx) (c : Fr) (W : WX) (i n : Nat) (es : List Expr) (f : AIo) : Prop where
  mono : MonoAI f
  len : ∀ ρ K E, f ρ K E → f ρ (fun xs ys ρ' => xs.length = n ∧ K xs ys ρ') E
  run : PA X es (rdAI c W i f)
def hereA (i : Nat) (g : AS) : AIo := fun ρ K E => (∃ s, ρ[i]? = some s ∧ s ≠ .no) ∧ g ρ (fun ys ρ' => K [] ys ρ') E
def nextA (f : ES) (g : AIo) : AIo := fun ρ K E => f ρ (fun x ρ1 => g ρ1 (fun xs ys ρ2 => okB false x ∧ K (x :: xs) ys ρ2) E) E
/-- nothing looked at -/
def argS : EV → Option D
  | .v d => some d
  | .m s => frSl s
  | _ => none
def argSs : List EV → Option (List D)
  | [] => some []
  | x :: xs => (argS x).bind fun d => (argSs xs).map (d :: ·)
def callI (F : FS) (i : Nat) (f : AIo) : ES := fun ρ K E => f ρ (fun xs ys ρ1 => match argSs xs, argSs ys, ρ1[i]? with
  | some ds, some es, some s => s ≠ .no ∧ F (ds.map .v ++ s :: es.map .v) (fun x ts => match ts with
      | [t] => K x (ρ1.set i t)
      | _ => False) (fun x ts => match ts with
      | [t] => E x (ρ1.set i t)
      | _ => False)
  | _, _, _ => False) E
section
variable {X : Cx} {c : Fr} {W : WX} {p p1 p2 : Bool} {M M1 M' M2 : Addr → Prop} {T T' as as1 as2 : List Addr} {σ σ1 : L2.St} {H H1 H' H2 : Hp} {ρ ρ1 ρ' ρ2 : Rho}
theorem aji_here {i : Nat} {o : Expr} {es : List Expr} {g : AS} (ho : PE X o (L2.tVar i)) (ha : AJ X c W p es g) (hs : starEach (o :: es) X.env = (false, eval o X.env) :: starEach es X.env := by rfl) : AJI X c W i 0 (o :: es) (hereA i g) := by
  refine ⟨fun ρ K K' E E' hk he q => ⟨q.1, ha.mono _ _ _ _ _ (fun ys ρ' q => hk _ _ _ q) he q.2⟩, fun ρ K E q => ⟨q.1, ha.mono _ _ _ _ _ (fun ys ρ' q => ⟨rfl, q⟩) (fun _ _ h => h) q.2⟩, PA.imp (L2.pa_cons ho ha.run hs) ?_⟩
  rintro σ H Q ⟨ρ, M, T, s, ⟨s0, e0, n0⟩, k⟩
  obtain ⟨v, as, hv, _, _⟩ := s.read e0 n0
  exact ⟨v, hv, ρ, M, T, s, ha.mono _ _ _ _ _ (fun ys ρ' k us H' M' as q r => k [] us v H' M' as q.weak r rfl hv) (fun _ _ h => h) k⟩
theorem VRs.argSs {ex : List Addr} : ∀ {vs : List V} {xs : List EV} {as : List Addr} {ds : List D}, VRs c M H vs xs as → argSs xs = some ds → (∀ a ∈ as, ¬ c.Z a ∧ a ∉ ex) → (∀ a ∈ ex, M a) →
    Reps c.g (fun a => c.Z a ∨ (M a ∧ a ∉ as ∧ a ∉ ex)) (fun a => a ∈ ex) H vs ds
  | _, _, _, _, .nil, e, _, _ => by rw [VS.argSs] at e; cases e; exact .nil
  | _, x :: xs, _, _, .cons (as := as1) (bs := as2) r rs, e, hz, hx => by
    rw [VS.argSs] at e
    cases q : argS x with
    | none => rw [q] at e; cases e
    | some d =>
      cases q2 : VS.argSs xs with
      | none => rw [q, q2] at e; cases e
      | some ds =>
        rw [q, q2] at e; cases e
        have rs' := rs.argSs q2 (fun a h => hz a (List.mem_append_left _ h)) hx
        refine .cons ?_ (rs'.re (fun _ _ z => z) fun a _ _ h k => h ?_)
        · cases r with
          | v r => cases q; exact r.re (fun a _ n z => n (hx a z)) fun a _ n z k => k.elim z fun y => n y.1
          | b l r => cases q
          | m r =>
            have r' : RepO c.g (fun a => c.Z a ∨ (M a ∧ a ∉ as2 ++ as1 ∧ a ∉ ex)) (fun a => a ∈ ex) H _ _ as1 := r.re (fun a _ n z => n (hx a z)) fun a _ n z k => k.elim z fun y => n y.1
            exact r'.freeze q fun a ha => ⟨(hz a (List.mem_append_right _ ha)).2, fun k => k.elim (hz a (List.mem_append_right _ ha)).1 fun y => y.2.1 (List.mem_append_right _ ha)⟩
        · rcases k with k | ⟨k1, k2, k3⟩
          · exact .inl k
          · exact .inr ⟨k1, fun y => k2 (List.mem_append_left _ y), k3⟩
theorem VRs.split : ∀ {vs us : List V} {xs ys : List EV} {as : List Addr}, VRs c M H (vs ++ us) (xs ++ ys) as → vs.length = xs.length → ∃ as1 as2, VRs c M H vs xs as1 ∧ VRs c M H us ys as2 ∧ as = as2 ++ as1
  | [], us, [], ys, as, r, _ => ⟨[], as, .nil, r, by simp⟩
  | [], _, _ :: _, _, _, _, h => by simp at h
  | _ :: _, _, [], _, _, _, h => by simp at h
  | v :: vs, us, x :: xs, ys, _, .cons (as := a1) (bs := bs) r rs, h => by
    obtain ⟨b1, b2, r1, r2, e⟩ := rs.split (by simpa using h)
    exact ⟨b1 ++ a1, b2, .cons r r1, r2, by rw [e, List.append_assoc]⟩
theorem RepOs.mid {g : Ge} {Z : Addr → Prop} {v : V} {s : Sl} {as : List Addr} (r : RepO g Z M H v s as) {us : List V} {es : List D} (re : Reps g Z M H us es) : ∀ {vs : List V} {ds : List D}, Reps g Z M H vs ds → RepOs g Z M H (vs ++ v :: us) (ds.map .v ++ s :: es.map .v) as
  | _, _, .nil => by
    have := RepOs.cons r (repOs_v re)
    rw [List.append_nil] at this; exact this
  | _, _, .cons q qs => RepOs.cons (as := []) (.v q) (RepOs.mid r re qs)
theorem pick_one {α : Type} : ∀ (k m : Nat) {l1 l2 : List α} {x : α}, l1.length = k → pick (List.replicate k false ++ true :: List.replicate m false) (l1 ++ x :: l2) = [x]
  | 0, m, [], l2, x, _ => by
    show x :: pick (List.replicate m false) l2 = [x]
    rw [pick_no fun b hb => List.eq_of_mem_replicate hb]
  | 0, _, _ :: _, _, _, h => by simp at h
  | _ + 1, _, [], _, _, h => by simp at h
  | k + 1, m, y :: l1, l2, x, h => by
    show pick (List.replicate k false ++ true :: List.replicate m false) (l1 ++ x :: l2) = [x]
    exact pick_one k m (by simpa using h)
/-- behind a call that changed what the slot i owns -/
theorem Post.callI {i : Nat} {t : Sl} {v : V} {asI ias ras Ms' : List Addr} (q : Post c p σ M T H M1 (as ++ T) H1 ρ1) (hv : σ[i]? = some (some v)) (hi : i < ρ1.length)
    (Ms : List Addr) (nd : (Ms ++ (as ++ T)).Nodup) (al : ∀ a ∈ Ms ++ (as ++ T), M1 a) (hI : ∀ a ∈ asI, a ∈ Ms) (hMs : ∀ a ∈ Ms', a ∈ Ms) (ndI : asI.Nodup ∧ Ms'.Nodup ∧ ∀ a ∈ asI, a ∉ Ms') (rest : RepS c.g c.Z M1 H1 σ (ρ1.set i .no) Ms')
    (keep : ∀ b o, H1 b = some o → b ∉ asI → H2 b = some o) (n2 : (ras ++ ias).Nodup) (new : ∀ a ∈ ras ++ ias, a ∈ asI ∨ H1 a = none) (ty : ∀ a ∈ ras ++ ias, Typed H2 a)
    (rt : RepO c.g c.Z (fun a => (M1 a ∧ a ∉ as ∧ a ∉ asI) ∨ a ∈ ras ++ ias) H2 v t ias) :
    Post c false σ M T H (fun a => (M1 a ∧ a ∉ as ∧ a ∉ asI) ∨ a ∈ ras ++ ias) (ras ++ T) H2 (ρ1.set i t) := by
  obtain ⟨nd1, nd2, nd3⟩ := List.nodup_append.mp nd
  obtain ⟨nd4, nd5, nd6⟩ := List.nodup_append.mp nd2
  have hIM : ∀ a ∈ asI, M1 a := fun a h => al a (List.mem_append_left _ (hI a h))
  have tyI : ∀ a ∈ asI, Typed H1 a := fun a h => q.sr.ty a (hIM a h)
  have r1 : RepS c.g c.Z (fun a => M1 a ∧ a ∉ as) H1 σ (ρ1.set i .no) Ms' := rest.re (fun _ _ n z => n z.1) fun _ _ _ z => z
  have mv : Moved (fun a => a ∈ asI) (fun a => M1 a ∧ a ∉ as) (fun a => (M1 a ∧ a ∉ as ∧ a ∉ asI) ∨ a ∈ ras ++ ias) H1 H2 := by
    refine ⟨fun b o e h => keep b o e h, tyI, fun a h => ⟨hIM a h, fun z => nd3 a (hI a h) a (List.mem_append_left _ z) rfl⟩, fun a h => ?_⟩
    rcases h with h | h
    · exact .inl ⟨h.1, h.2.1⟩
    · rcases new a h with z | z
      · exact .inl ⟨hIM a z, fun y => nd3 a (hI a z) a (List.mem_append_left _ y) rfl⟩
      · exact .inr z
  have r2 := r1.moved mv fun a h z => ndI.2.2 a z h
  obtain ⟨Ms2, r3, m2, k2⟩ := RepS.put rt r2 (i := i) (by rw [List.length_set]; exact hi)
  rw [List.set_set, set_get hv] at r3
  -- what is new or was owned by the slot
  have dj : ∀ a ∈ ras ++ ias, a ∉ Ms' ∧ a ∉ T := fun a h => by
    rcases new a h with z | z
    · exact ⟨ndI.2.2 a z, fun y => nd3 a (hI a z) a (List.mem_append_right _ y) rfl⟩
    · exact ⟨fun y => (q.sr.ty a (al a (List.mem_append_left _ (hMs a y)))).ne z, fun y => (q.sr.ty a (al a (List.mem_append_right _ (List.mem_append_right _ y)))).ne z⟩
  obtain ⟨n3, n4, n5⟩ := List.nodup_append.mp n2
  have nd7 : Ms2.Nodup := k2 ndI.2.1 n4 fun a h => (dj a (List.mem_append_right _ h)).1
  have hMM : ∀ b o, H1 b = some o → b ∉ asI → H2 b = some o := keep
  refine ⟨⟨⟨Ms2, r3, ?_, fun a h => ?_⟩, fun a h => ?_, fun a h => ?_, fun b o e h => ?_, q.sr.pin, q.sr.ln⟩, fun b o e h => ?_, fun a h => ?_, fun e => nomatch e⟩
  · refine List.nodup_append.mpr ⟨nd7, List.nodup_append.mpr ⟨n3, nd5, fun a h b hb e => (dj a (List.mem_append_left _ h)).2 (e ▸ hb)⟩, fun a h b hb e => ?_⟩
    subst e
    rcases List.mem_append.mp hb with z | z
    · rcases m2 a h with y | y
      · exact (dj a (List.mem_append_left _ z)).1 y
      · exact n5 a z a y rfl
    · rcases m2 a h with y | y
      · exact nd3 a (hMs a y) a (List.mem_append_right _ z) rfl
      · exact (dj a (List.mem_append_right _ y)).2 z
  · rcases List.mem_append.mp h with z | z
    · rcases m2 a z with y | y
      · exact .inl ⟨al a (List.mem_append_left _ (hMs a y)), fun w => nd3 a (hMs a y) a (List.mem_append_left _ w) rfl, fun w => ndI.2.2 a w y⟩
      · exact .inr (List.mem_append_right _ y)
    · rcases List.mem_append.mp z with z | z
      · exact .inr (List.mem_append_left _ z)
      · exact .inl ⟨al a (List.mem_append_right _ (List.mem_append_right _ z)), fun w => nd6 a w a z rfl, fun w => nd3 a (hI a w) a (List.mem_append_right _ z) rfl⟩
  · rcases h with h | h
    · rcases q.sr.ty a h.1 with ⟨_, e⟩ | ⟨_, _, _, e⟩
      · exact .inl ⟨_, keep _ _ e h.2.2⟩
      · exact .inr ⟨_, _, _, keep _ _ e h.2.2⟩
    · exact ty a h
  · rcases h with h | h
    · exact q.sr.src a h.1
    · rcases new a h with z | z
      · exact q.sr.src a (hIM a z)
      · by_cases y : a ∈ c.io
        · exact .inl y
        · refine .inr ?_
          cases e : c.H0 a with
          | none => rfl
          | some u => have := q.sr.keep a u e y; rw [z] at this; cases this
  · refine keep b o (q.sr.keep b o e h) fun z => ?_
    rcases q.sr.src b (hIM b z) with y | y
    · exact h y
    · rw [y] at e; cases e
  · refine keep b o (q.keep b o e h) fun z => ?_
    rcases q.new b (hIM b z) with y | y
    · exact nd3 b (hI b z) b (List.mem_append_right _ (h y)) rfl
    · rw [y] at e; cases e
  · rcases h with h | h
    · exact q.new a h.1
    · rcases new a h with z | z
      · exact q.new a (hIM a z)
      · by_cases y : M a
        · exact .inl y
        · refine .inr ?_
          cases e : H a with
          | none => rfl
          | some u => have := q.keep a u e fun w => absurd w y; rw [z] at this; cases this
theorem callI_run {mask : List Bool} {F : FS} {es : List Expr} {f : AIo} {i kk mm : Nat} (hm : mask = List.replicate kk false ++ true :: List.replicate mm false) (hF : MonoF F) (hl : ∀ ss K E, F ss K E → ss.length = mask.length) (ha : AJI X c W i kk es f) :
    ∀ σ H Q, rdE c W false (callI F i f) σ H Q → rdAI c W i f σ H (fun vs H1 => spV c.g mask F vs H1 Q (L2.WE W σ)) := by
  rintro σ H Q ⟨ρ, M, T, s, h⟩
  refine ⟨ρ, M, T, s, ha.mono _ _ _ _ _ (fun xs ys ρ1 k vs us v H1 M1 as q r hlen hv => ?_) (fun _ _ h => h) (ha.len _ _ _ h)⟩
  obtain ⟨hxk, k⟩ := k
  split at k
  · rename_i ds es' s1 e1 e2 e3
    obtain ⟨sn, k⟩ := k
    obtain ⟨Ms, rS, nd, al⟩ := q.sr.slots
    obtain ⟨v', asI, Ms', h1, h2, h3, h4, h5, h6⟩ := rS.out e3 sn
    rw [hv] at h1; cases h1
    have ndI := h6 (List.nodup_append.mp nd).1
    obtain ⟨nd1, nd2, nd3⟩ := List.nodup_append.mp nd
    have hIM : ∀ a ∈ asI, M1 a := fun a h => al a (List.mem_append_left _ (h4 a h))
    have hz : ∀ a ∈ as, ¬ c.Z a ∧ a ∉ asI := fun a h => ⟨q.sr.noZ (al a (List.mem_append_right _ (List.mem_append_left _ h))), fun z => nd3 a (h4 a z) a (List.mem_append_left _ h) rfl⟩
    obtain ⟨b1, b2, r1, r2, rfl⟩ := r.split hlen
    have d1 := r1.argSs (ex := asI) e1 (fun a h => hz a (List.mem_append_right _ h)) hIM
    have d2 := r2.argSs (ex := asI) e2 (fun a h => hz a (List.mem_append_left _ h)) hIM
    have d1' : Reps c.g (fun a => c.Z a ∨ (M1 a ∧ a ∉ b2 ++ b1 ∧ a ∉ asI)) (fun a => a ∈ asI) H1 vs ds := d1.re (fun _ _ z => z) fun a _ _ n k => n (k.imp id fun y => ⟨y.1, fun w => y.2.1 (List.mem_append_right _ w), y.2.2⟩)
    have d2' : Reps c.g (fun a => c.Z a ∨ (M1 a ∧ a ∉ b2 ++ b1 ∧ a ∉ asI)) (fun a => a ∈ asI) H1 us es' := d2.re (fun _ _ z => z) fun a _ _ n k => n (k.imp id fun y => ⟨y.1, fun w => y.2.1 (List.mem_append_left _ w), y.2.2⟩)
    have ds' : RepO c.g (fun a => c.Z a ∨ (M1 a ∧ a ∉ b2 ++ b1 ∧ a ∉ asI)) (fun a => a ∈ asI) H1 v s1 asI := h2.re (fun a _ n z => n (hIM a z)) fun a _ n z k => k.elim z fun y => n y.1
    have hi : i < ρ1.length := (List.getElem?_eq_some_iff.mp e3).1
    refine ⟨_, _, asI, fun a z => ?_, fun a h k => ?_, RepOs.mid ds' d2' d1', ndI.1, hl _ _ _ k, hF _ _ _ _ _ (fun x ts k w H2 ras ias cp rv re => ?_) (fun x ts k cls dd H2 ias cp rx re => ?_) k⟩
    · rcases z with z | z
      · intro e4
        by_cases y : a ∈ c.io
        · exact c.zi a y z
        · cases e5 : c.H0 a with
          | none => exact c.zd a z e5
          | some o => have := q.sr.keep a o e5 y; rw [e4] at this; cases this
      · exact (q.sr.ty a z.1).ne
    · rcases k with k | k
      · exact q.sr.noZ (hIM a h) k
      · exact k.2.2 h
    · split at k
      · rename_i t
        have io := cp.io
        rw [hm, pick_one kk mm (by rw [hlen]; exact hxk)] at io
        cases io with
        | cons rt rn =>
        cases rn
        rename_i ias
        rw [List.append_nil] at cp rv
        have hret : retSl t = true := by have := cp.ret; simpa [retSls] using this
        have rt' : RepO c.g c.Z (fun a => (M1 a ∧ a ∉ b2 ++ b1 ∧ a ∉ asI) ∨ a ∈ ras ++ ias) H2 v t ias := by
          rw [List.append_nil] at rt
          exact rt.back (fun a _ n z y => y.elim (fun y => z (.inr y)) n) (fun a _ n z y => z (.inl y)) hret
        have ty : ∀ a ∈ ras ++ ias, Typed H2 a := fun a h => by
          rcases List.mem_append.mp h with h | h
          · exact rv.typed a h
          · exact rt'.typed a h
        exact k w H2 _ ras (q.callI hv hi Ms nd al h4 h5 ndI h3 cp.keep cp.nd cp.new ty rt') (rv.back (fun a _ n z y => y.elim (fun y => z (.inr y)) n) (fun a _ n z y => z (.inl y)) re)
      · exact k.elim
    · split at k
      · rename_i t
        have io := cp.io
        rw [hm, pick_one kk mm (by rw [hlen]; exact hxk)] at io
        cases io with
        | cons rt rn =>
        cases rn
        rename_i ias
        rw [List.append_nil] at cp rx
        have hret : retSl t = true := by have := cp.ret; simpa [retSls] using this
        have rt' : RepO c.g c.Z (fun a => (M1 a ∧ a ∉ b2 ++ b1 ∧ a ∉ asI) ∨ a ∈ [] ++ ias) H2 v t ias := by
          rw [List.append_nil] at rt
          exact rt.back (fun a _ n z y => y.elim (fun y => z (.inr y)) n) (fun a _ n z y => z (.inl y)) hret
        exact k cls dd H2 _ (q.callI hv hi Ms nd al h4 h5 ndI h3 cp.keep cp.nd cp.new (fun a h => rt'.typed a (by simpa using h)) rt') (rx.back (fun a _ n z y => y.elim (fun y => z (.inr y)) (fun w => n (by simpa using w))) (fun a _ n z y => z (.inl y)) re)
      · exact k.elim
  · exact k.elim
theorem callI_mono {F : FS} {f : AIo} {i : Nat} (hF : MonoF F) (hf : MonoAI f) : Mono (callI F i f) := fun ρ K K' E E' hk he h => hf _ _ _ _ _ (fun xs ys ρ1 h => by
  split at h
  · refine ⟨h.1, hF _ _ _ _ _ (fun x ts h => ?_) (fun x ts h => ?_) h.2⟩
    · split at h
      · exact hk _ _ h
      · exact h
    · split at h
      · exact he _ _ h
      · exact h
  · exact h) he h
/-- f(.., name, ..) of a def that changes the one thing that is handed as a name -/
theorem ej_callI {mask : List Bool} {F : FS} {i j k kk mm : Nat} {ps : List Str} {x : Str} {pp pos : Pos} {e : Expr} {es : List Expr} {f : AIo} (d : Def X.prog X.w c.g.K c.g.mg X.base j x ps mask F) (hm : mask = List.replicate kk false ++ true :: List.replicate mm false)
    (hK : X.K = c.g.K) (hmg : X.mg = c.g.mg) (hr : L2.Room k X.A) (hjk : j ≤ k) (hg : L2.Gl X x) (tk : L2.Takes X W)
    (ha : AJI X c W i kk (e :: es) f) (hdb : (x == ("__debug__" : Str)) = false := by decide) (he : starEach (e :: es) X.env = (false, eval e X.env) :: starEach es X.env := by rfl) (hpl : (backTo pos (starEach es X.env)).any (·.1) = false := by rfl) :
    EJ X c W false (.Call (.Name x pp) (e :: es) [] pos) (callI F i f) := by
  obtain ⟨g, fd, G, h1, h2, h3⟩ := d.ex
  have G' : FnOk X.prog X.w X.K X.mg X.base (L2.CX X.prog X.w) j g fd ps (spV c.g mask F) := by rw [hK, hmg]; exact G
  exact ⟨callI_mono d.mono ha.mono, PE.imp (L2.pe_callS (E := L2.WE W) G' (hr.mono hjk) hg (by rw [hmg]; exact h1) (by rw [hK]; exact h2) (by rw [hK]; exact h3.1) (fun σ => L2.passAt tk σ) ha.run hdb he hpl) (callI_run hm d.mono d.len ha)⟩
/-! the thing that is changed is new and nobody's -/
/-- the arguments, one of them a new thing that is changed -/
def callN (F : FS) (kk : Nat) (g : AS) : ES := fun ρ K E => g ρ (fun xs ρ1 => match argSs (xs.take kk), xs[kk]?, argSs (xs.drop (kk + 1)) with
  | some ds, some (.m s), some es => F (ds.map .v ++ s :: es.map .v) (fun x ts => match ts with
      | [_] => K x ρ1
      | _ => False) (fun x ts => match ts with
      | [_] => E x ρ1
      | _ => False)
  | _, _, _ => False) E
theorem VRs.take : ∀ (k : Nat) {vs : List V} {xs : List EV} {as : List Addr}, VRs c M H vs xs as → ∃ a1 a2, VRs c M H (vs.take k) (xs.take k) a1 ∧ VRs c M H (vs.drop k) (xs.drop k) a2 ∧ as = a2 ++ a1
  | 0, vs, xs, as, r => ⟨[], as, by rw [List.take_zero, List.take_zero]; exact .nil, r, by simp⟩
  | k + 1, _, _, _, .nil => ⟨[], [], .nil, .nil, rfl⟩
  | k + 1, _, _, _, .cons (as := as) (bs := bs) r rs => by
    obtain ⟨a1, a2, h1, h2, e⟩ := rs.take k
    exact ⟨a1 ++ as, a2, .cons r h1, h2, by rw [e, List.append_assoc]⟩
end
end VS
set_option Elab.async false
set_option linter.all false
set_option maxRecDepth 100000
set_option maxHeartbeats 4000000
/-! VS13: what is walked, list or tuple; constants of the module. Own work. -/
namespace VS
open PySem PySem.Spec PyProof.Rows
open L2 (V Hp HO upd SqL SqT Rd Cx TE TT TA TS TG TGs TI It VK XK WX PE PT PA PS PSs PG PGs PI OpR RelV CallR Sp FnOk atI MtR)
section
variable {X : Cx} {c : Fr} {W : WX} {p p1 p2 : Bool} {M M1 M' M2 : Addr → Prop} {T T' as as1 as2 : List Addr} {σ σ1 : L2.St} {H H1 H' H2 : Hp} {ρ ρ1 ρ' ρ2 : Rho}
theorem pi_seq {tg l : Expr} {tl : TE} (hl : PE X l tl) : PI X tg l (fun σ H R => tl σ H fun x H1 => ∃ a, x = .ref a ∧ (((∃ xs, SqL X.K H1 a xs) ∧ R (L2.Itl X.K a) H1) ∨ ((∃ xs, SqT X.K H1 a xs) ∧ R (L2.Itt X.K a) H1))) := by
  refine ⟨fun pins s σ H R I h => ?_⟩
  refine L2.thn (hl.run pins s σ H _ I h) fun v s1 ⟨x, H1, I1, r1, q1⟩ => ?_
  obtain ⟨a, e, q1⟩ := q1
  subst e
  cases r1
  rcases q1 with ⟨⟨xs, hq⟩, q⟩ | ⟨⟨xs, hq⟩, q⟩
  · obtain ⟨its, rv, p, hz⟩ := I1.list hq
    refine wpAny_pyIter_list p.isList ?_
    refine ⟨s1.heap.objs.size, [s1.heap.objs.size], _, _, H1, rfl, I1.kept (t' := s1.toks) fun b o e => Heap.get?_push_of_some _ e, L2.turn_list a _, ⟨_, Heap.get?_push_size _ rfl, rfl, rfl⟩, fun b hb => ?_, q⟩
    have e : b = s1.heap.objs.size := by simpa using hb
    subst e
    exact I1.fpOk (Nat.le_refl _) (I1.hok.fresh (Nat.le_refl _))
  · obtain ⟨its, rv, p, hz⟩ := I1.tuple hq
    refine wpAny_pyIter_tuple (show s1.heap.IsTuple a its.toArray from p) ?_
    refine ⟨s1.heap.objs.size, [s1.heap.objs.size], _, _, H1, rfl, I1.kept (t' := s1.toks) fun b o e => Heap.get?_push_of_some _ e, L2.turn_tuple a _, ⟨_, Heap.get?_push_size _ rfl, rfl, rfl⟩, fun b hb => ?_, q⟩
    have e : b = s1.heap.objs.size := by simpa using hb
    subst e
    exact I1.fpOk (Nat.le_refl _) (I1.hok.fresh (Nat.le_refl _))
/-- a list that is looked at no more, or a tuple -/
def itS (f : ES) : IS := fun ρ K E => f ρ (fun x ρ' => match asT x with
  | some ds => K ds ρ'
  | none => (match stL x with
    | some ds => K ds ρ'
    | none => False)) E
theorem ij_seq {tg l : Expr} {f : ES} (hK : X.K = c.g.K) (h : EJ X c W p l f) : IJ X c W p tg l (itS f) := by
  refine ⟨fun ρ K K' E E' hk he q => h.mono _ _ _ _ _ (fun x ρ' q => by
    split at q
    · exact hk _ _ q
    · split at q
      · exact hk _ _ q
      · exact q) he q, PI.imp (pi_seq h.run) ?_⟩
  rintro σ H R ⟨ρ, M, T, s, k⟩
  refine ⟨ρ, M, T, s, h.mono _ _ _ _ _ (fun x ρ' k v H' M' as q r => ?_) (fun _ _ h => h) k⟩
  split at k
  · rename_i ds e
    obtain ⟨a, vs, rfl, t, rs⟩ := VR.tuple r e
    refine ⟨a, rfl, .inr ⟨⟨_, hK ▸ t⟩, ?_⟩⟩
    rw [hK]; exact k _ H' M' q.drop (.tup q.drop.sr (.tup t rs))
  · split at k
    · rename_i ds e
      obtain ⟨a, st, M2, rfl, q2, r2⟩ := VRg.stL q r e
      refine ⟨a, rfl, .inl ⟨?_, ?_⟩⟩
      · cases r2 with
        | lst l _ => exact ⟨_, hK ▸ l.sq⟩
      · rw [hK]; exact k _ H' M2 q2 (.list q2.sr r2)
    · exact k.elim
/-- a constant of the module, any data -/
structure GD (K : PySem.W.Frag) (mg : Str → Option Value) (x : Str) (d : D) : Prop where
  ex : ∃ v u, mg x = some u ∧ RelV v u ∧ ∀ Z M H, Rep ⟨K, mg⟩ Z M H v d
theorem ej_gd {x : Str} {d : D} {pos : Pos} (hK : X.K = c.g.K) (hmg : X.mg = c.g.mg) (hg : L2.Gl X x) (h : GD c.g.K c.g.mg x d) (hd : (x == ("__debug__" : Str)) = false := by decide) : EJ X c W true (.Name x pos) (cE d) := by
  obtain ⟨v, u, h1, h2, h3⟩ := h.ex
  exact ej_glob hg (by rw [hmg]; exact h1) h2 (fun Z M H => h3 Z M H) hd
/-- -n of a written number -/
def negE (f : ES) : ES := fun ρ K E => f ρ (fun x ρ' => match x with
  | .v (.int i) => K (.v (.int (-i))) ρ'
  | _ => False) E
theorem ej_neg {a : Expr} {f : ES} {pos : Pos} (h : EJ X c W p a f) : EJ X c W p (.UnaryOp .USub a pos) (negE f) := by
  refine ⟨fun ρ K K' E E' hk he q => h.mono _ _ _ _ _ (fun x ρ' q => by
    split at q
    · exact hk _ _ q
    · exact q) he q, PE.imp (L2.pe_un L2.un_neg h.run) ?_⟩
  rintro σ H Q ⟨ρ, M, T, s, k⟩
  refine ⟨ρ, M, T, s, h.mono _ _ _ _ _ (fun x ρ' k v H' M' as q r => ?_) (fun _ _ h => h) k⟩
  split at k
  · exact ⟨_, VR.int r, k _ H' M' [] q.drop (.v (.int _))⟩
  · exact k.elim
end
end VS
set_option Elab.async false
set_option linter.all false
set_option maxRecDepth 100000
set_option maxHeartbeats 4000000
/-! VS16: list comprehensions. Own work. -/
namespace VS
open PySem PySem.Spec PyProof.Rows
open L2 (V Hp HO upd SqL SqT Rd Cx TE TT TA TS TG TGs TI It VK XK WX PE PT PTs PA PS PSs PG PGs PI OpR RelV CallR Sp FnOk atI wipe)
def wipeR (ρ : Rho) : List Nat → Rho
  | [] => ρ
  | v :: vs => (wipeR ρ vs).set v .no
/-- [f for g in ds if t], each turn from ρ; it leaves what was there -/
def compD (vs : List Nat) (g : GS) (t : BS) (f : ES) (ρ : Rho) : List D → List D → (List D → Prop) → Prop
  | [], acc, K => K acc
  | d :: ds, acc, K => g (.v d) ρ (fun ρ1 => t ρ1 (fun b ρ2 => if b = true then f ρ2 (fun x ρ3 => wipeR ρ3 vs = ρ ∧ match evD x with
      | some e => compD vs g t f ρ ds (acc ++ [e]) K
      | none => False) (fun _ _ => False) else wipeR ρ2 vs = ρ ∧ compD vs g t f ρ ds acc K) (fun _ _ => False))
def compE (vs : List Nat) (it : IS) (g : GS) (t : BS) (f : ES) : ES := fun ρ K E => it ρ (fun ds ρ1 => ds.length ≤ 1000000 ∧ compD vs g t f (wipeR ρ1 vs) ds [] (fun out => K (.m (.l out)) (wipeR ρ1 vs))) E
def yesT : BS := fun ρ K _ => K true ρ
abbrev W0 : WX := fun _ _ _ _ => False
structure TJs (X : Cx) (c : Fr) (W : WX) (p : Bool) (es : List Expr) (f : BS) : Prop where
  mono : MonoB f
  run : PTs X es (rdT c W p f)
def rdGW (c : Fr) (vs : List Nat) (f : GS) : TG := fun v σ H Q => ∃ ρ M T s as, SR c M (as ++ T) σ H ρ ∧ RepO c.g c.Z M H v s as ∧ f s ρ (fun ρ' => ∀ σ' M', SR c M' T σ' H ρ' → (∀ a, M' a → M a) → wipe σ' vs = wipe σ vs → Q σ' H)
structure GW (X : Cx) (c : Fr) (vs : List Nat) (e : Expr) (f : GS) : Prop where
  mono : MonoG f
  run : PG X e (rdGW c vs f)
def rdGWs (c : Fr) (vs : List Nat) (f : GSs) : TGs := fun us σ H Q => ∃ ρ M T ss as, SR c M (as ++ T) σ H ρ ∧ RepOs c.g c.Z M H us ss as ∧ f ss ρ (fun ρ' => ∀ σ' M', SR c M' T σ' H ρ' → (∀ a, M' a → M a) → wipe σ' vs = wipe σ vs → Q σ' H)
structure GWs (X : Cx) (c : Fr) (vs : List Nat) (es : List Expr) (f : GSs) : Prop where
  mono : MonoGs f
  run : PGs X es (rdGWs c vs f)
theorem wipe_get {σ : L2.St} : ∀ {vs : List Nat} (j : Nat), (wipe σ vs)[j]? = if j ∈ vs then (if j < σ.length then some none else none) else σ[j]?
  | [], j => by simp [wipe]
  | v :: vs, j => by
    unfold wipe
    by_cases e : v = j
    · subst e
      rw [List.getElem?_set]
      simp [L2.wipe_length]
    · rw [List.getElem?_set_ne e, wipe_get j]
      have : (j ∈ v :: vs) = (j ∈ vs) := by simp [Ne.symm e]
      simp only [this]
theorem wipe_set {σ : L2.St} {vs : List Nat} {i : Nat} {x : Option V} (h : i ∈ vs) : wipe (σ.set i x) vs = wipe σ vs := by
  apply List.ext_getElem?
  intro j
  rw [wipe_get, wipe_get]
  by_cases e : j ∈ vs
  · rw [if_pos e, if_pos e, List.length_set]
  · rw [if_neg e, if_neg e, List.getElem?_set_ne (by intro z; subst z; exact e h)]
theorem wipe_wipe {σ : L2.St} {vs : List Nat} : wipe (wipe σ vs) vs = wipe σ vs := by
  apply List.ext_getElem?
  intro j
  rw [wipe_get, wipe_get, L2.wipe_length]
  by_cases e : j ∈ vs
  · rw [if_pos e, if_pos e]
  · rw [if_neg e, if_neg e]
section
variable {g : Ge} {Z M : Addr → Prop} {H : Hp}
theorem RepS.wipe1 : ∀ {σ : L2.St} {ρ : Rho} {Ms : List Addr}, RepS g Z M H σ ρ Ms → ∀ v, ∃ Ms', RepS g Z M H (σ.set v none) (ρ.set v .no) Ms' ∧ Ms'.Sublist Ms
  | _, _, _, .nil, v => ⟨[], .nil, List.Sublist.refl _⟩
  | _, _, _, .no (as := as) r, 0 => ⟨as, .no r, List.Sublist.refl _⟩
  | _, _, _, .no r, v + 1 => by
    obtain ⟨Ms', r', s⟩ := r.wipe1 v
    exact ⟨Ms', .no r', s⟩
  | _, _, _, .yes (bs := bs) q r, 0 => ⟨bs, .no r, List.sublist_append_right _ _⟩
  | _, _, _, .yes q r, v + 1 => by
    obtain ⟨Ms', r', s⟩ := r.wipe1 v
    exact ⟨_ ++ Ms', .yes q r', List.Sublist.append (List.Sublist.refl _) s⟩
theorem RepS.wipe : ∀ (vs : List Nat) {σ : L2.St} {ρ : Rho} {Ms : List Addr}, RepS g Z M H σ ρ Ms → ∃ Ms', RepS g Z M H (L2.wipe σ vs) (wipeR ρ vs) Ms' ∧ Ms'.Sublist Ms
  | [], _, _, Ms, r => ⟨Ms, r, List.Sublist.refl _⟩
  | v :: vs, _, _, _, r => by
    obtain ⟨Ms1, r1, s1⟩ := RepS.wipe vs r
    obtain ⟨Ms2, r2, s2⟩ := r1.wipe1 v
    exact ⟨Ms2, r2, s2.trans s1⟩
theorem RepS.unwipe1 : ∀ {σ : L2.St} (v : Nat) {ρ : Rho} {Ms : List Addr}, RepS g Z M H (σ.set v none) ρ Ms → RepS g Z M H σ ρ Ms
  | [], _, _, _, r => r
  | x :: σ, 0, _, _, r => by
    cases r with
    | no r => exact .no r
  | x :: σ, v + 1, _, _, r => by
    cases r with
    | no r => exact .no (RepS.unwipe1 v r)
    | yes q r => exact .yes q (RepS.unwipe1 v r)
theorem RepS.unwipe : ∀ (vs : List Nat) {σ : L2.St} {ρ : Rho} {Ms : List Addr}, RepS g Z M H (L2.wipe σ vs) ρ Ms → RepS g Z M H σ ρ Ms
  | [], _, _, _, r => r
  | v :: vs, _, _, _, r => RepS.unwipe vs (RepS.unwipe1 v r)
end
section
variable {X : Cx} {c : Fr} {W : WX} {p p1 p2 : Bool} {M M1 M' M2 : Addr → Prop} {T T' as as1 as2 : List Addr} {σ σ1 : L2.St} {H H1 H' H2 : Hp} {ρ ρ1 ρ' ρ2 : Rho}
theorem SR.wipe {vs : List Nat} (hm : ∀ v ∈ vs, c.mask[v]? ≠ some true) (s : SR c M T σ H ρ) : SR c M T (L2.wipe σ vs) H (wipeR ρ vs) := by
  obtain ⟨Ms, r, nd, al⟩ := s.slots
  obtain ⟨Ms', r', sb⟩ := r.wipe vs
  refine ⟨⟨Ms', r', nd.sublist (List.Sublist.append sb (List.Sublist.refl _)), fun a h => al a ?_⟩, s.ty, s.src, s.keep, fun j hj => ?_, by rw [L2.wipe_length]; exact s.ln⟩
  · rcases List.mem_append.mp h with h | h
    · exact List.mem_append_left _ (sb.subset h)
    · exact List.mem_append_right _ h
  · rw [wipe_get, if_neg (fun z => hm j z hj)]
    exact s.pin j hj
theorem SR.unwipe {vs : List Nat} (hm : ∀ v ∈ vs, c.mask[v]? ≠ some true) (s : SR c M T (L2.wipe σ vs) H ρ) : SR c M T σ H ρ := by
  obtain ⟨Ms, r, nd, al⟩ := s.slots
  refine ⟨⟨Ms, r.unwipe vs, nd, al⟩, s.ty, s.src, s.keep, fun j hj => ?_, by rw [← s.ln, L2.wipe_length]⟩
  have := s.pin j hj
  rwa [wipe_get, if_neg (fun z => hm j z hj)] at this
theorem gw_name {i : Nat} {fz : Bool} {vs : List Nat} {x : Str} {pos : Pos} (hv : i ∈ vs) (hm : c.mask[i]? ≠ some true) (hN : X.N.Nodup) (hi : X.N[i]? = some x) (hx : L2.Loc X.env.scope x) (hf : X.fn x = true ∨ X.env.scope.names.lookup x = some .local) : GW X c vs (.Name x pos) (gN i fz) := by
  refine ⟨fun s ρ K K' hk h => ?_, PG.imp (L2.pg_name hN hi hx hf) ?_⟩
  · unfold gN at h ⊢
    split at h
    · exact ⟨h.1, hk _ h.2⟩
    · exact h
  · rintro v σ H Q ⟨ρ, M, T, s, as, sr, r, h⟩
    unfold gN at h
    split at h
    · rename_i s' e
      cases fz with
      | false =>
        simp only [Bool.false_eq_true, if_false, Option.some.injEq] at e
        subst e
        exact h.2 _ M (sr.put r h.1 hm) (fun _ h => h) (wipe_set hv)
      | true =>
        cases e2 : frSl s with
        | none => simp [e2] at e
        | some d =>
          simp only [e2, if_true, Option.map_some, Option.some.injEq] at e
          subst e
          obtain ⟨sr2, r2⟩ := sr.frz r e2
          exact h.2 _ (fun a => M a ∧ a ∉ as) (sr2.put (as := []) (.v r2) h.1 hm) (fun _ h => h.1) (wipe_set hv)
    · exact h.elim
theorem gws_nil {vs : List Nat} : GWs X c vs [] gNil := by
  refine ⟨fun ss ρ K K' hk h => ?_, PGs.imp L2.pgs_nil ?_⟩
  · unfold gNil at h ⊢
    split at h
    · exact hk _ h
    · exact h
  · rintro us σ H Q ⟨ρ, M, T, ss, as, sr, r, h⟩
    unfold gNil at h
    split at h
    · cases r
      exact ⟨rfl, h σ M sr (fun _ h => h) rfl⟩
    · exact h.elim
theorem gws_cons {vs : List Nat} {e : Expr} {es : List Expr} {f : GS} {g : GSs} (h1 : GW X c vs e f) (h2 : GWs X c vs es g) (hs : (assignEach (e :: es) X.env).map (·.2) = assign e X.env :: (assignEach es X.env).map (·.2) := by rfl) : GWs X c vs (e :: es) (gCons f g) := by
  refine ⟨fun ss ρ K K' hk h => ?_, PGs.imp (L2.pgs_cons h1.run h2.run hs) ?_⟩
  · unfold gCons at h ⊢
    split at h
    · exact h1.mono _ _ _ _ (fun _ h => h2.mono _ _ _ _ hk h) h
    · exact h
  · rintro us σ H Q ⟨ρ, M, T, ss, as, sr, r, h⟩
    unfold gCons at h
    split at h
    · cases r with
      | cons r rs =>
        rename_i s0 ss0 v as1 us bs
        have sr' : SR c M (as1 ++ (bs ++ T)) σ H ρ := by rw [← List.append_assoc]; exact sr
        refine ⟨v, us, rfl, ρ, M, bs ++ T, s0, as1, sr', r, h1.mono _ _ _ _ (fun ρ1 h σ1 M1 q1 hM hw => ?_) h⟩
        have rs' : RepOs c.g c.Z M1 H us ss0 bs := rs.re (fun a _ n z => n (hM a z)) fun _ _ _ z => z
        exact ⟨ρ1, M1, T, ss0, bs, q1, rs', h2.mono _ _ _ _ (fun ρ2 h σ2 M2 q2 hM2 hw2 => h σ2 M2 q2 (fun a z => hM a (hM2 a z)) (hw2.trans hw)) h⟩
    · exact h.elim
theorem gw_tup {vs : List Nat} {es : List Expr} {k n : Nat} {g : GSs} {pos : Pos} (hK : X.K = c.g.K) (hc : X.calm = true) (h : GWs X c vs es g) (hn : (assignEach es X.env).length = n := by rfl) (hst : (assignEach es X.env).findIdx? (·.1) = none := by rfl) : GW X c vs (.Tuple es k pos) (gT n g) := by
  refine ⟨fun s ρ K K' hk h' => ?_, PG.imp (L2.pg_tup hc h.run hn hst) ?_⟩
  · unfold gT at h' ⊢
    split at h'
    · exact ⟨h'.1, h.mono _ _ _ _ hk h'.2⟩
    · exact ⟨h'.1, h.mono _ _ _ _ hk h'.2⟩
    · exact h'
  · rintro v σ H Q ⟨ρ, M, T, s, as, sr, r, h'⟩
    unfold gT at h'
    split at h'
    · cases r with
      | v r =>
      cases r with
      | tup t r => exact ⟨_, _, rfl, hK ▸ t, r.length.trans h'.1, ρ, M, T, _, [], sr, repOs_v r, h'.2⟩
    · cases r with
      | t t r => exact ⟨_, _, rfl, hK ▸ t, r.length.trans h'.1, ρ, M, T, _, as, sr, r, h'.2⟩
    · exact h'.elim
theorem tjs_nil : TJs X c W true [] yesT := ⟨fun _ _ _ _ _ hk _ h => hk _ _ h, ⟨fun pins s σ H Q I ⟨ρ, M, T, sr, k⟩ => L2.pts_nil.run pins s σ H Q I (k H M (Post.refl sr))⟩⟩
theorem tjs_one {e : Expr} {t : BS} (h : TJ X c W p e t) : TJs X c W p [e] t := ⟨h.mono, L2.pts_one h.run⟩
theorem compD_mono {vs : List Nat} {g : GS} {t : BS} {f : ES} {ρ : Rho} (hg : MonoG g) (ht : MonoB t) (hf : Mono f) : ∀ (ds acc : List D) (K K' : List D → Prop), (∀ o, K o → K' o) → compD vs g t f ρ ds acc K → compD vs g t f ρ ds acc K'
  | [], acc, K, K', hk, h => hk _ h
  | d :: ds, acc, K, K', hk, h => hg _ _ _ _ (fun ρ1 h => ht _ _ _ _ _ (fun b ρ2 h => by
      split at h
      · rename_i hb; rw [if_pos hb]
        refine hf _ _ _ _ _ (fun x ρ3 h => ⟨h.1, ?_⟩) (fun _ _ h => h) h
        have h2 := h.2
        split at h2
        · exact compD_mono hg ht hf ds _ K K' hk h2
        · exact h2.elim
      · rename_i hb; rw [if_neg hb]
        exact ⟨h.1, compD_mono hg ht hf ds _ K K' hk h.2⟩) (fun _ _ h => h) h) h
theorem SR.appT {D : Addr} {vals vals' : List V} (s : SR c M (D :: T) σ H ρ) (h : H D = some (.lst vals)) : SR c M (D :: T) σ (upd H D (.lst vals')) ρ := by
  obtain ⟨Ms, r, nd, al⟩ := s.slots
  have mD : M D := al D (List.mem_append_right _ List.mem_cons_self)
  have nD : D ∉ Ms := fun z => (List.nodup_append.mp nd).2.2 D z D List.mem_cons_self rfl
  have mv : Moved (fun a => a = D) M M H (upd H D (.lst vals')) := ⟨fun b o e hb => by rw [L2.upd_ne hb]; exact e, fun a z => by subst z; exact .inl ⟨_, h⟩, fun a z => by subst z; exact mD, fun _ z => .inl z⟩
  refine ⟨⟨Ms, r.moved mv (fun a ha z => nD (z ▸ ha)), nd, al⟩, fun a ha => ?_, s.src, fun b o e hb => ?_, s.pin, s.ln⟩
  · by_cases e : a = D
    · subst e; exact .inl ⟨_, L2.upd_same⟩
    · rcases s.ty a ha with ⟨_, z⟩ | ⟨_, _, _, z⟩
      · exact .inl ⟨_, by rw [L2.upd_ne e]; exact z⟩
      · exact .inr ⟨_, _, _, by rw [L2.upd_ne e]; exact z⟩
  · have : b ≠ D := fun z => by
      subst z
      rcases s.src b mD with z | z
      · exact hb z
      · rw [z] at e; cases e
    rw [L2.upd_ne this]
    exact s.keep b o e hb
theorem blk_ok {N N2 : List Str} {sc sc2 scope : Scope} {own : List (Str × Nat)} (hN : N2 = N) (hs : sc2 = sc) (h : L2.blkC N sc scope own = true) : L2.BlkOk N2 sc2 scope own := by
  subst hN hs
  exact L2.blkOk_by h
theorem lc_imp {elt tg iter : Expr} {ifs : List Expr} {scope : Scope} {own : List (Str × Nat)} {pos : Pos} {it : IS} {g : GS} {t : BS} {f : ES} (hc : X.calm = true) (hN : X.N.Nodup) (hm : ∀ v ∈ own.map (·.2), c.mask[v]? ≠ some true) (hi : IJ X c W p tg iter it) (ok : L2.BlkOk X.N X.env.scope scope own)
    (hg : ∀ (s : Shared) (H : Hp) (C : Addr) (cl : List (Str × Addr)) (fp : List Addr), GW (X.blk s H scope (compEnvC scope cl C X.env) fp) c (own.map (·.2)) tg g) (ht : ∀ (s : Shared) (H : Hp) (C : Addr) (cl : List (Str × Addr)) (fp : List Addr), TJs (X.blk s H scope (compEnvC scope cl C X.env) fp) c W0 true ifs t)
    (he : ∀ (s : Shared) (H : Hp) (C : Addr) (cl : List (Str × Addr)) (fp : List Addr), EJ (X.blk s H scope (compEnvC scope cl C X.env) fp) c W0 true elt f) (hs : ∀ x, foldedSetIterable iter X.env x = pure x := by intro _; rfl) :
    Mono (compE (own.map (·.2)) it g t f) ∧ ∀ σ H Q, rdE c W p (compE (own.map (·.2)) it g t f) σ H Q → L2.tLc (rdI c W p it) (rdGW c (own.map (·.2)) g) (rdT c W0 true t) (rdE c W0 true f) (own.map (·.2)) σ H Q := by
  have mg := (hg X.s_0 X.H_0 0 [] []).mono
  have mt := (ht X.s_0 X.H_0 0 [] []).mono
  have mf := (he X.s_0 X.H_0 0 [] []).mono
  refine ⟨fun ρ K K' E E' hk hx h => hi.mono _ _ _ _ _ (fun ds ρ1 q => ⟨q.1, compD_mono mg mt mf _ _ _ _ (fun o => hk _ _) q.2⟩) hx h, ?_⟩
  rintro σ H Q ⟨ρ, M, T, s, k⟩
  refine ⟨ρ, M, T, s, hi.mono _ _ _ _ _ (fun ds ρ1 k J H1 M1 q1 jt D hD => ?_) (fun x ρ' k => k) k⟩
  obtain ⟨hlen, k⟩ := k
  generalize hvs : own.map (·.2) = vs at *
  have q0 := q1.own hD (o := .lst []) (.inl ⟨_, L2.upd_same⟩)
  have e0 : Ext H1 (upd H1 D (.lst [])) := Ext.new hD
  -- the loop's invariant
  refine ⟨fun i m H5 => ∃ (M5 : Addr → Prop) (vals : List V) (acc : List VS.D), m = ds.length - i ∧ i ≤ ds.length ∧ acc.length ≤ i ∧ SR c M5 (D :: T) (wipe σ vs) H5 (wipeR ρ1 vs) ∧ H5 D = some (.lst vals) ∧ Reps c.g c.Z M5 H5 vals acc ∧ (∀ b o, H1 b = some o → H5 b = some o) ∧ (∀ a, M5 a → M1 a ∨ H1 a = none) ∧
      compD vs g t f (wipeR ρ1 vs) (ds.drop i) acc (fun out => ∀ v H' M' as, Post c p σ M T H M' (as ++ T) H' (wipeR ρ1 vs) → VR c M' H' v (.m (.l out)) as → Q v H'), ⟨ds.length, _, [], [], by simp, Nat.zero_le _, Nat.le_refl _, q0.sr.wipe hm, L2.upd_same, .nil, e0, fun a ha => ?_, ?_⟩, ?_⟩
  · rcases ha with z | rfl
    · exact .inl z
    · exact .inr hD
  · rw [List.drop_zero]; exact k
  rintro i m H5 ⟨M5, vals, acc, rfl, hi', hacc, s5, hD5, r5, x5, n5, k5⟩
  have p5 : Post c false (wipe σ vs) M1 T H1 M5 T H5 (wipeR ρ1 vs) := ⟨SR.drop (as := [D]) s5, fun b o e _ => x5 b o e, n5, fun e => nomatch e⟩
  obtain ⟨it1, it2⟩ := jt _ M5 H5 _ p5 i
  cases e : ds[i]? with
  | none =>
    refine .inl ⟨it2 e, ?_⟩
    have hd : ds.drop i = [] := by rw [List.drop_eq_nil_iff]; exact List.getElem?_eq_none_iff.mp e
    rw [hd] at k5
    have pz : Post c true σ M1 T H1 M5 ([D] ++ T) H5 (wipeR ρ1 vs) := ⟨s5.unwipe hm, fun b o e _ => x5 b o e, n5, fun _ => x5⟩
    have pp := q1.trans pz fun _ z => z
    rw [Bool.and_true] at pp
    have hl : vals.length = acc.length := r5.length
    exact k5 (.ref D) H5 M5 [D] pp (.m (.l hD5 r5))
  | some d =>
    obtain ⟨go, yl⟩ := it1 d e
    obtain ⟨hlt, ed⟩ := List.getElem?_eq_some_iff.mp e
    have hd : ds.drop i = d :: ds.drop (i + 1) := by rw [List.drop_eq_getElem_cons hlt, ed]
    rw [hd] at k5
    refine .inr ⟨go, fun H6 => ∃ (M6 : Addr → Prop) (vals : List V) (acc : List VS.D), acc.length ≤ i + 1 ∧ SR c M6 (D :: T) (wipe σ vs) H6 (wipeR ρ1 vs) ∧ H6 D = some (.lst vals) ∧ Reps c.g c.Z M6 H6 vals acc ∧ (∀ b o, H1 b = some o → H6 b = some o) ∧ (∀ a, M6 a → M1 a ∨ H1 a = none) ∧
        compD vs g t f (wipeR ρ1 vs) (ds.drop (i + 1)) acc (fun out => ∀ v H' M' as, Post c p σ M T H M' (as ++ T) H' (wipeR ρ1 vs) → VR c M' H' v (.m (.l out)) as → Q v H'), fun H6 ⟨M6, vals6, acc6, h1, h2, h3, h4, h5, h6, h7⟩ => ⟨ds.length - (i + 1), by omega, M6, vals6, acc6, rfl, hlt, h1, h2, h3, h4, h5, h6, h7⟩, fun x H6 y => ?_⟩
    obtain ⟨x6, rx⟩ := yl x H6 y
    refine ⟨wipeR ρ1 vs, M5, D :: T, .v d, [], s5.ext x6, .v rx, mg _ _ _ _ (fun ρ7 k7 σ7 M7 s7 m7 w7 => ⟨w7.trans wipe_wipe, ρ7, M7, D :: T, s7, mt _ _ _ _ _ (fun b ρ8 k8 H8 M8 q8 => ?_) (fun _ _ z => z.elim) k7⟩) k5⟩
    have w7' : wipe σ7 vs = wipe σ vs := w7.trans wipe_wipe
    have x8 : Ext H6 H8 := q8.pu rfl
    have n8 : ∀ a, M8 a → M1 a ∨ H1 a = none := fun a ha => by
      rcases q8.new a ha with z | z
      · exact n5 a (m7 a z)
      · refine .inr ?_
        cases e : H1 a with
        | none => rfl
        | some o => rw [x6 _ _ (x5 _ _ e)] at z; cases z
    have n8' : ∀ a, M8 a → M5 a ∨ H5 a = none := fun a ha => by
      rcases q8.new a ha with z | z
      · exact .inl (m7 a z)
      · exact .inr (Ext.free x6 z)
    have k8 := k8
    show (if b = true then _ else _)
    split
    · rename_i hb
      rw [if_pos hb] at k8
      refine ⟨ρ8, M8, D :: T, q8.sr, mf _ _ _ _ _ (fun ev ρ9 k9 v H9 M9 as q9 r9 => ?_) (fun _ _ z => z.elim) k8⟩
      obtain ⟨kw, k9⟩ := k9
      split at k9
      · rename_i d9 e9
        obtain ⟨M10, q10, r10, sub, _⟩ := r9.evD q9 e9
        have x9 : Ext H8 H9 := q10.pu rfl
        have xx : Ext H5 H9 := (x6.trans x8).trans x9
        have hD9 : H9 D = some (.lst vals) := xx _ _ hD5
        have s10 := q10.sr.wipe hm
        rw [w7', kw] at s10
        have n10 : ∀ a, M10 a → M5 a ∨ H5 a = none := fun a ha => by
          rcases q10.new a ha with z | z
          · exact n8' a z
          · exact .inr (Ext.free (x6.trans x8) z)
        have mD : M10 D := by
          obtain ⟨_, _, _, al⟩ := q10.sr.slots
          exact al D (List.mem_append_right _ List.mem_cons_self)
        have mD5 : M5 D := by
          obtain ⟨_, _, _, al⟩ := s5.slots
          exact al D (List.mem_append_right _ List.mem_cons_self)
        have mv : Moved (fun a => a = D) M5 M10 H5 (upd H9 D (.lst (vals ++ [v]))) := ⟨fun b o e hb => by rw [L2.upd_ne hb]; exact xx _ _ e, fun a z => by subst z; exact .inl ⟨_, hD5⟩, fun a z => by subst z; exact mD5, n10⟩
        have mv2 : Moved (fun a => a = D) M10 M10 H9 (upd H9 D (.lst (vals ++ [v]))) := ⟨fun b o e hb => by rw [L2.upd_ne hb]; exact e, fun a z => by subst z; exact .inl ⟨_, hD9⟩, fun a z => by subst z; exact mD, fun _ z => .inl z⟩
        have hl : vals.length = acc.length := r5.length
        refine ⟨vals, hD9, lt_line (by omega), M10, vals ++ [v], acc ++ [d9], by simp; omega, s10.appT hD9, L2.upd_same, (r5.moved mv).append (.cons (r10.moved mv2) .nil), fun b o e => ?_, fun a ha => ?_, k9⟩
        · have : b ≠ D := fun z => by subst z; rw [hD] at e; cases e
          rw [L2.upd_ne this]
          exact xx _ _ (x5 _ _ e)
        · rcases n10 a ha with z | z
          · exact n5 a z
          · refine .inr ?_
            cases e : H1 a with
            | none => rfl
            | some o => rw [x5 _ _ e] at z; cases z
      · exact k9.elim
    · rename_i hb
      rw [if_neg hb] at k8
      obtain ⟨kw, k8⟩ := k8
      have s8 := q8.sr.wipe hm
      rw [w7', kw] at s8
      have mv : Moved (fun _ => False) M5 M8 H5 H8 := ⟨fun b o e _ => x8 _ _ (x6 _ _ e), fun _ z => z.elim, fun _ z => z.elim, n8'⟩
      exact ⟨M8, vals, acc, by omega, s8, x8 _ _ (x6 _ _ hD5), r5.moved mv, fun b o e => x8 _ _ (x6 _ _ (x5 _ _ e)), n8, k8⟩
theorem ej_lc {elt tg iter : Expr} {ifs : List Expr} {scope : Scope} {own : List (Str × Nat)} {pos : Pos} {it : IS} {g : GS} {t : BS} {f : ES} (hc : X.calm = true) (hN : X.N.Nodup) (hm : ∀ v ∈ own.map (·.2), c.mask[v]? ≠ some true) (hi : IJ X c W p tg iter it) (ok : L2.BlkOk X.N X.env.scope scope own)
    (hg : ∀ (s : Shared) (H : Hp) (C : Addr) (cl : List (Str × Addr)) (fp : List Addr), GW (X.blk s H scope (compEnvC scope cl C X.env) fp) c (own.map (·.2)) tg g) (ht : ∀ (s : Shared) (H : Hp) (C : Addr) (cl : List (Str × Addr)) (fp : List Addr), TJs (X.blk s H scope (compEnvC scope cl C X.env) fp) c W0 true ifs t)
    (he : ∀ (s : Shared) (H : Hp) (C : Addr) (cl : List (Str × Addr)) (fp : List Addr), EJ (X.blk s H scope (compEnvC scope cl C X.env) fp) c W0 true elt f) (hs : ∀ x, foldedSetIterable iter X.env x = pure x := by intro _; rfl) :
    EJ X c W p (.ListComp elt [⟨tg, iter, ifs, 0⟩] scope pos) (compE (own.map (·.2)) it g t f) :=
  have h := lc_imp (pos := pos) hc hN hm hi ok hg ht he hs
  ⟨h.1, PE.imp (L2.pe_lc hc hN hi.run ok (fun s H C cl fp => (hg s H C cl fp).run) (fun s H C cl fp => (ht s H C cl fp).run) (fun s H C cl fp => (he s H C cl fp).run) hs) h.2⟩
/-- y = [..] on one line, y a local -/
theorem sj_setlc {i : Nat} {fz : Bool} {y : Str} {py spos : Pos} {elt tg iter : Expr} {ifs : List Expr} {scope : Scope} {own : List (Str × Nat)} {pos : Pos} {it : IS} {g : GS} {t : BS} {f : ES} (hmi : c.mask[i]? ≠ some true) (hy : X.N[i]? = some y) (hyk : X.env.scope.kind = .function) (hyl : X.env.scope.names.lookup y = some .local) (hc : X.calm = true) (hN : X.N.Nodup) (hm : ∀ v ∈ own.map (·.2), c.mask[v]? ≠ some true) (hi : IJ X c W p tg iter it) (ok : L2.BlkOk X.N X.env.scope scope own)
    (hg : ∀ (s : Shared) (H : Hp) (C : Addr) (cl : List (Str × Addr)) (fp : List Addr), GW (X.blk s H scope (compEnvC scope cl C X.env) fp) c (own.map (·.2)) tg g) (ht : ∀ (s : Shared) (H : Hp) (C : Addr) (cl : List (Str × Addr)) (fp : List Addr), TJs (X.blk s H scope (compEnvC scope cl C X.env) fp) c W0 true ifs t)
    (he : ∀ (s : Shared) (H : Hp) (C : Addr) (cl : List (Str × Addr)) (fp : List Addr), EJ (X.blk s H scope (compEnvC scope cl C X.env) fp) c W0 true elt f) (hs : ∀ x, foldedSetIterable iter X.env x = pure x := by intro _; rfl) (hpl : (py.line == pos.line) = true := by rfl) (hya : (scope.names.any fun (n, k) => n == y && (k == .local || k == .cell)) = false := by decide +kernel) :
    SJ X c W (.Assign [.Name y py] (.ListComp elt [⟨tg, iter, ifs, 0⟩] scope pos) spos) (setS i fz (compE (own.map (·.2)) it g t f)) :=
  have h := lc_imp (pos := pos) hc hN hm hi ok hg ht he hs
  ⟨setS_mono h.1, PS.imp (L2.ps_setLc hc hN hy hyl (L2.sw_true hyk hyl hpl hya) hi.run ok (fun s H C cl fp => (hg s H C cl fp).run) (fun s H C cl fp => (ht s H C cl fp).run) (fun s H C cl fp => (he s H C cl fp).run) hs) fun D σ H q => h.2 _ _ _ (setS_run h.1 hmi D σ H q)⟩
end
end VS
set_option Elab.async false
set_option linter.all false
set_option maxRecDepth 100000
set_option maxHeartbeats 4000000
/-! VS17: list(..), tuple(..). Own work. -/
namespace VS
open PySem PySem.Spec PyProof.Rows
open L2 (V Hp HO upd SqL SqT Rd Cx TE TT TA TS TG TGs VK XK WX PE PT PA PS PSs PG PGs OpR RelV CallR Sp FnOk atI)
section
variable {X : Cx} {c : Fr} {W : WX} {p p1 p2 : Bool} {M M' M2 : Addr → Prop} {T T' as as1 as2 : List Addr} {σ : L2.St} {H H' H2 : Hp} {ρ ρ' ρ2 : Rho}
def seqD (x : EV) : Option (List D) := match asL x with
  | some ds => some ds
  | none => asT x
def listC : CR := fun xs K _ ρ => match xs with
  | [x] => (match seqD x with
    | some ds => K (.m (.l ds)) ρ
    | none => False)
  | _ => False
theorem VR.seq {v : V} {x : EV} {ds : List D} (r : VR c M H v x as) (e : seqD x = some ds) : ∃ a vs, v = .ref a ∧ (SqL c.g.K H a vs ∨ SqT c.g.K H a vs) ∧ Reps c.g c.Z M H vs ds := by
  unfold seqD at e
  split at e
  · rename_i ds' e1
    cases e
    obtain ⟨a, vs, h1, h2, h3⟩ := r.list e1
    exact ⟨a, vs, h1, .inl h2, h3⟩
  · obtain ⟨a, vs, h1, h2, h3⟩ := r.tuple e
    exact ⟨a, vs, h1, .inr h2, h3⟩
/-- tuple(a list) -/
def tupC : CR := fun xs K _ ρ => match xs with
  | [x] => (match asL x with
    | some ds => K (.v (.tup ds)) ρ
    | none => (match asT x with
      | some ds => K (.v (.tup ds)) ρ
      | none => False))
  | _ => False
end
end VS
namespace VS
open PySem PySem.Spec PyProof.Rows
open L2 (V Hp HO Cx WX PE)
/-- a name that holds shared data, or an owned list to look at -/
def rE (i : Nat) : ES := fun ρ K _ => match ρ[i]? with
  | some (.v d) => K (.v d) ρ
  | some (.l ds) => K (.b ds) ρ
  | _ => False
theorem ej_r {X : Cx} {c : Fr} {W : WX} {i : Nat} {e : Expr} (h : PE X e (L2.tVar i)) : EJ X c W true e (rE i) := by
  refine ⟨fun ρ K K' E E' hk he q => ?_, PE.imp h ?_⟩
  · unfold rE at q ⊢
    split at q
    · exact hk _ _ q
    · exact hk _ _ q
    · exact q
  · rintro σ H Q ⟨ρ, M, T, s, k⟩
    unfold rE at k
    split at k
    · rename_i d e
      obtain ⟨v, as, h1, h2, _⟩ := s.read e (by simp)
      cases h2 with
      | v r => exact ⟨v, h1, k v H M [] (Post.same s) (.v r)⟩
    · rename_i d e
      obtain ⟨v, as, h1, h2, _⟩ := s.read e (by simp)
      cases h2 with
      | l e r => exact ⟨_, h1, k _ H M [] (Post.same s) (.b e r)⟩
    · exact k.elim
end VS
set_option Elab.async false
set_option linter.all false
set_option maxRecDepth 100000
set_option maxHeartbeats 4000000
/-! VS18: try, except. Own work. -/
namespace VS
open PySem PySem.Spec PyProof.Rows
open L2 (V Hp HO upd SqL SqT Rd Cx TE TT TA TS TG TGs VK XK WX PE PT PA PS PSs PG PGs OpR RelV CallR Sp FnOk atI)
/-! ### the frame of a suite: a run of its own from what is there -/
def maskAt (m : List Bool) (i : Nat) : List Bool := (m ++ List.replicate (i + 1 - m.length) false).set i true
section
variable {X : Cx} {c : Fr} {W : WX} {p p1 p2 : Bool} {M M0 M1 M2 M' : Addr → Prop} {T T' as as1 as2 : List Addr} {σ σ2 : L2.St} {H H0 H1 H' H2 : Hp} {ρ ρ1 ρ' ρ2 : Rho} {i : Nat} {a : Addr}
theorem XRg.moved {g : Ge} {Z ch : Addr → Prop} {cls : Value} {d : Option Addr} {x : Exc} (m : Moved ch M M' H H') (r : XRg g Z M H cls d x) : XRg g Z M' H' cls d x := by
  cases r with
  | no h => exact .no h
  | yes h e n w r =>
    refine .yes h (m.keep _ _ e fun z => ?_) n w (r.moved m)
    rcases m.ty _ z with ⟨_, q⟩ | ⟨_, _, _, q⟩ <;> (rw [e] at q; cases q)
/-! ### which classes a clause catches -/
def lookB (L : List (Str × Bool)) (cn : Str) : Option Bool := match L with
  | [] => none
  | p :: L => if p.1 = cn then some p.2 else lookB L cn
def tryAsS (L : List (Str × Bool)) (i : Nat) (f : SS) (g : Exc → SS) : SS := fun ρ k => f ρ { k with ex := fun x ρ' => match lookB L x.cn with
  | some true => i < ρ'.length ∧ g x (ρ'.set i .no) ⟨fun ρ2 => k.nx (ρ2.set i .no), fun ev ρ2 => k.rt ev (ρ2.set i .no), fun _ _ => False, fun ρ2 => k.bk (ρ2.set i .no), fun ρ2 => k.ct (ρ2.set i .no)⟩
  | some false => k.ex x ρ'
  | none => False }
/-- .. except y: without a name -/
def tryOnlyS (L : List (Str × Bool)) (f g : SS) : SS := fun ρ k => f ρ { k with ex := fun x ρ' => match lookB L x.cn with
  | some true => g ρ' { k with ex := fun _ _ => False }
  | some false => k.ex x ρ'
  | none => False }
end
end VS
set_option Elab.async false
set_option linter.all false
set_option maxRecDepth 100000
set_option maxHeartbeats 4000000
/-! VS19: what a suite asks of its exception. Own work. -/
namespace VS
open PySem PySem.Spec PyProof.Rows
open L2 (V Hp HO upd SqL SqT Rd Cx TE TT TA TS TG TGs VK XK WX PE PT PA PS PSs PG PGs OpR RelV CallR Sp FnOk atI)
section
variable {X : Cx} {c : Fr} {W : WX} {p p1 p2 : Bool} {M M0 M1 M2 M' : Addr → Prop} {T T' as as1 as2 : List Addr} {σ σ2 : L2.St} {H H0 H1 H' H2 : Hp} {ρ ρ1 ρ' ρ2 : Rho} {i : Nat} {a : Addr} {oe : Obj} {cls : Value} {d : Option Addr} {pn : List (Addr × Obj)} {x : Exc}
/-! e.f -/
def lookF : List Str → List D → Str → Option D
  | n :: ns, d :: ds, f => if n = f then some d else lookF ns ds f
  | _, _, _ => none
def xfE (cn f : Str) (x : Exc) : ES := fun ρ K _ => x.cn = cn ∧ match lookF x.ns x.ds f with
  | some d => K (.v d) ρ
  | none => False
/-! isinstance(e, y), isinstance(e, (y, ..)) -/
def CVal (mg : Str → Option Value) (y : Str) (v : V) (cv : Value) : Prop := (∃ D, mg y = some (.ref D) ∧ v = .ref D ∧ cv = .ref D) ∨ (mg y = none ∧ ∃ n, bootBuiltins y = some (.type n) ∧ y ≠ "__name__" ∧ v = .ty n ∧ cv = .type n)
theorem CVal.inj {mg : Str → Option Value} {y : Str} {v v' : V} {cv cv' : Value} (h : CVal mg y v cv) (h' : CVal mg y v' cv') : v' = v ∧ cv' = cv := by
  rcases h with ⟨D, h1, rfl, rfl⟩ | ⟨h1, n, h2, _, rfl, rfl⟩
  · rcases h' with ⟨D', h1', rfl, rfl⟩ | ⟨h1', n', h2', _, rfl, rfl⟩
    · rw [h1] at h1'; cases h1'; exact ⟨rfl, rfl⟩
    · rw [h1] at h1'; cases h1'
  · rcases h' with ⟨D', h1', rfl, rfl⟩ | ⟨h1', n', h2', _, rfl, rfl⟩
    · rw [h1] at h1'; cases h1'
    · rw [h2] at h2'; cases h2'; exact ⟨rfl, rfl⟩
inductive CVals (mg : Str → Option Value) : List Str → List V → List Value → Prop
  | nil : CVals mg [] [] []
  | cons {y : Str} {v : V} {cv : Value} {ys : List Str} {vs : List V} {cvs : List Value} : CVal mg y v cv → CVals mg ys vs cvs → CVals mg (y :: ys) (v :: vs) (cv :: cvs)
theorem CVals.inj {mg : Str → Option Value} : ∀ {ys : List Str} {vs vs' : List V} {cvs cvs' : List Value}, CVals mg ys vs cvs → CVals mg ys vs' cvs' → vs' = vs ∧ cvs' = cvs
  | [], _, _, _, _, .nil, .nil => ⟨rfl, rfl⟩
  | _ :: _, _, _, _, _, .cons h hs, .cons k ks => by
    obtain ⟨rfl, rfl⟩ := h.inj k
    obtain ⟨rfl, rfl⟩ := hs.inj ks
    exact ⟨rfl, rfl⟩
theorem CVals.len {mg : Str → Option Value} : ∀ {ys : List Str} {vs : List V} {cvs : List Value}, CVals mg ys vs cvs → vs.length = ys.length
  | _, _, _, .nil => rfl
  | _, _, _, .cons _ hs => by rw [List.length_cons, List.length_cons, hs.len]
def kinE (L : List (Str × Bool)) (x : Exc) : ES := fun ρ K _ => match lookB L x.cn with
  | some b => K (.v (.bl b)) ρ
  | none => False
theorem XRg.xd {g : Ge} {Z : Addr → Prop} (r : XRg g Z M H cls d x) : ∀ dd, d = some dd → ∃ fs, H dd = some (.xd fs) := fun dd e => by
  cases r with
  | no _ => cases e
  | yes _ h _ _ _ => cases e; exact ⟨_, h⟩
/-! what grows with its ends -/
end
end VS
set_option Elab.async false
set_option linter.all false
set_option maxRecDepth 100000
set_option maxHeartbeats 4000000
/-! VS20: what is never reached; what is frozen on its way; is True; all. Own work. -/
namespace VS
open PySem PySem.Spec PyProof.Rows
open L2 (V Hp HO upd SqL SqT Rd Cx TE TT TA TS TG TGs VK XK WX PE PT PA PS PSs PG PGs OpR RelV CallR Sp FnOk atI)
section
variable {X : Cx} {c : Fr} {W : WX} {p p1 p2 : Bool} {M M' M2 : Addr → Prop} {T T' as as1 as2 : List Addr} {σ : L2.St} {H H' H2 : Hp} {ρ ρ' ρ2 : Rho}
/-- owned by nobody from here on, changed by nobody -/
def frzE (f : ES) : ES := fun ρ K E => f ρ (fun x ρ' => match x with
  | .m s => (match frSl s with
    | some d => K (.v d) ρ'
    | none => False)
  | .v d => K (.v d) ρ'
  | _ => False) E
/-! is True, is False -/
def isTB : EV → Option Bool
  | .v (.bl b) => some b
  | .m (.v (.bl b)) => some b
  | _ => none
def isTR : BR := fun x y K _ ρ => match y with
  | .v (.bl b) => K (.v (.bl (isTB x == some b))) ρ
  | _ => False
/-! all of a list of bools -/
def blsD : List D → Option (List Bool)
  | [] => some []
  | .bl b :: ds => (blsD ds).map (b :: ·)
  | _ :: _ => none
def allC : CR := fun xs K _ ρ => match xs with
  | [x] => (match (asL x).bind blsD with
    | some bs => K (.v (.bl (bs.all id))) ρ
    | none => False)
  | _ => False
end
end VS
set_option Elab.async false
set_option linter.all false
set_option maxRecDepth 100000
set_option maxHeartbeats 4000000
/-! VS14: how a def's semantics is computed: simp set; promises. Own work. -/
namespace VS
open PySem PySem.Spec PyProof.Rows
open L2 (V Hp Cx WX)
theorem at0 {α : Type} {x : α} {xs : List α} : L2.atI (x :: xs) 0 = some x := by simp [L2.atI, L2.ixN]; try (rw [if_pos (by omega)]; rfl)
theorem at1 {α : Type} {x y : α} {xs : List α} : L2.atI (x :: y :: xs) 1 = some y := by simp [L2.atI, L2.ixN]; try (rw [if_pos (by omega)]; rfl)
theorem at2 {α : Type} {x y z : α} {xs : List α} : L2.atI (x :: y :: z :: xs) 2 = some z := by simp [L2.atI, L2.ixN]; try (rw [if_pos (by omega)]; rfl)
theorem at3 {α : Type} {x y z u : α} {xs : List α} : L2.atI (x :: y :: z :: u :: xs) 3 = some u := by simp [L2.atI, L2.ixN]; try (rw [if_pos (by omega)]; rfl)
/-! eqD by its cases alone: unfolded at a symbol the kernel refuses it -/
theorem eqD_nn : eqD .non .non = true := by simp [eqD]
theorem eqD_bb {a b : Bool} : eqD (.bl a) (.bl b) = (a == b) := by simp [eqD]
theorem eqD_ii {i j : Int} : eqD (.int i) (.int j) = (i == j) := by simp [eqD]
theorem eqD_ss {a b : Str} : eqD (.str a) (.str b) = (a == b) := by simp [eqD]
theorem eqD_tt {a b : List D} : eqD (.tup a) (.tup b) = eqDs a b := by simp [eqD]
theorem eqD_ll {s t : Bool} {a b : List D} : eqD (.lst s a) (.lst t b) = eqDs a b := by simp [eqD]
theorem eqD_bi {b : Bool} {i : Int} : eqD (.bl b) (.int i) = ((if b then 1 else 0) == i) := by simp [eqD]
theorem eqD_ib {b : Bool} {i : Int} : eqD (.int i) (.bl b) = (i == (if b then 1 else 0)) := by simp [eqD]
theorem eqD_nt {a : List D} : eqD .non (.tup a) = false := by simp [eqD]
theorem eqD_tn {a : List D} : eqD (.tup a) .non = false := by simp [eqD]
theorem eqD_it {i : Int} {a : List D} : eqD (.int i) (.tup a) = false := by simp [eqD]
theorem eqD_ti {i : Int} {a : List D} : eqD (.tup a) (.int i) = false := by simp [eqD]
theorem eqD_ni {i : Int} : eqD .non (.int i) = false := by simp [eqD]
theorem eqD_in {i : Int} : eqD (.int i) .non = false := by simp [eqD]
theorem eqDs_nn : eqDs [] [] = true := by simp [eqDs]
theorem eqDs_cc {a b : D} {as bs : List D} : eqDs (a :: as) (b :: bs) = (eqD a b && eqDs as bs) := by simp [eqDs]
theorem eqDs_nc {b : D} {bs : List D} : eqDs [] (b :: bs) = false := by simp [eqDs]
theorem eqDs_cn {b : D} {bs : List D} : eqDs (b :: bs) [] = false := by simp [eqDs]
end VS
set_option Elab.async false
set_option linter.all false
set_option maxRecDepth 100000
set_option maxHeartbeats 4000000
/-! VS15: the end of a law. Own work. -/
namespace VS
open PySem PySem.Spec PyProof.Rows
open L2 (V Hp HO upd SqL SqT Rd Cx Sp FnOk)
/-- the script, ints of at most 2 ^ 20 bits -/
def F_law : FS := fun ss K _ => match ss with
  | [.v (.lst true ds)] => (∃ ns : List Int, ds = ns.map .int ∧ ns.length ≤ 63 ∧ ∀ n ∈ ns, Builtin.Int.intBits n ≤ 1048576) ∧ K (.v (.bl true)) []
  | _ => False
theorem m_law : MonoF F_law := fun ss K K' E E' hk he h => by
  unfold F_law at h ⊢
  grind
theorem reps_ints {g : Ge} {Z M : Addr → Prop} {H : Hp} : ∀ {ns : List Int}, Reps g Z M H (ns.map V.int) (ns.map .int)
  | [] => .nil
  | _ :: _ => .cons (.int _) reps_ints
theorem sp_law {g : Ge} {H : Hp} {a : Addr} {ns : List Int} (hl : ns.length ≤ 63) (hb : ∀ n ∈ ns, Builtin.Int.intBits n ≤ 1048576) (hS : SqL g.K H a (ns.map V.int)) : spV g [false] F_law [.ref a] H (fun v _ => v = .bl true) fun _ _ _ => False := by
  refine ⟨fun _ => False, [.v (.lst true (ns.map .int))], [], fun _ h => h.elim, fun _ h => absurd h (by simp), ?_, .nil, rfl, ⟨ns, rfl, hl, hb⟩, fun v H' ras ias cp rv re => ?_⟩
  · refine .cons (as := []) (bs := []) (.v (.lst ?_ reps_ints)) .nil
    rcases hS with (h | h) | h
    · exact .inl ⟨h, fun z => absurd z (by simp), fun _ z => z⟩
    · exact .inr (.inl h)
    · exact .inr (.inr h)
  · cases rv with
    | v r => cases r; rfl
theorem law_end {l : PySem.W.OpenLaw} {w : World} {K : PySem.W.Frag} {mg : Str → Option Value} {fa : Addr} {h : Heap} {k : Nat} {x : Str} {qual : Str} {st : Stmt} {f : Addr} {fd : FuncData} {dvs : List V} {kws : List (Str × V)} (hfa : mg "law" = some (.ref fa)) (h1 : mg "law" = some (.ref f)) (F : L2.FunD K "law" qual (L2.defArgs st) (L2.defBody st) (L2.defScope st) dvs kws f fd) (hb : ∀ (s : Shared) (u : Value), BindsTo s fd ⟨[u], []⟩ [(x, u)])
    (D : ∀ base : Heap, K.In base → base.Ns mainGlobals mg → Def l.prog w K mg base k "law" [x] [false] F_law) : LamX.LawAtS l w K (L2.CX l.prog w) k 63 x mg fa h := by
  have e : f = fa := by rw [hfa] at h1; cases h1; rfl
  subst e
  refine ⟨fd, [], spV ⟨K, mg⟩ [false] F_law, fun _ h => absurd h (by simp), fun _ h => absurd h (by simp), fun _ h => absurd h (by simp), hb, fun H a ns hl hbits _ hS => sp_law hl hbits hS, fun base kb nb _ => ?_⟩
  obtain ⟨f', fd', G, g1, g2, g3, oc, od, osl, lk⟩ := (D base kb nb).ex
  have e : f' = f := by rw [hfa] at g1; cases g1; rfl
  subst e
  have e2 : fd' = fd := by
    obtain ⟨oc2, od2, dV, kV, doc, pm, an, cdv, ct, osl2, hfd, lk2, _⟩ := F.ex
    rw [lk] at lk2
    cases lk2
    rfl
  subst e2
  exact G
theorem cx_end {P : Program} {w : World} {H : Hp} {s : Shared} {e : Value} {s' : Shared} (h : L2.CX P w [] H s (fun _ _ _ => False) e s') : False := by
  obtain ⟨_, _, _, _, _, _, _, _, _, _, _, _, z⟩ := h
  exact z
/-! ### facts and constants of the module -/
mutual
def gdB (K : PySem.W.Frag) : D → Value → Bool
  | .non, .none => true
  | .bl b, .bool c => b == c
  | .int i, .int j _ => decide (j = i)
  | .str s, .str z _ => decide (z = s)
  | .tup ds, .ref a => (match K.lookup a with
    | some ⟨.type c, _, .seq its _, _⟩ => decide (c = "tuple") && (decide (its.size ≤ sizeLine) && gdBs K ds its.toList)
    | _ => false)
  | _, _ => false
def gdBs (K : PySem.W.Frag) : List D → List Value → Bool
  | [], [] => true
  | d :: ds, u :: us => gdB K d u && gdBs K ds us
  | _, _ => false
end
mutual
theorem gdB_ok {g : Ge} : ∀ {d : D} {u : Value}, gdB g.K d u = true → ∃ v, L2.RelV v u ∧ ∀ Z M H, Rep g Z M H v d
  | .non, .none, _ => ⟨.non, rfl, fun _ _ _ => .non⟩
  | .bl b, .bool c, h => ⟨.bl b, by
    have : b = c := by simpa [gdB] using h
    rw [this]; rfl, fun _ _ _ => .bl b⟩
  | .int i, .int j t, h => ⟨.int i, ⟨t, by
    have : j = i := by simpa [gdB] using h
    rw [this]⟩, fun _ _ _ => .int i⟩
  | .str s, .str z t, h => ⟨.str s, ⟨t, by
    have : z = s := by simpa [gdB] using h
    rw [this]⟩, fun _ _ _ => .str s⟩
  | .tup ds, .ref a, h => by
    unfold gdB at h
    split at h
    · rename_i c od its n osl e
      rw [Bool.and_eq_true, Bool.and_eq_true] at h
      obtain ⟨h1, h2, h3⟩ := h
      obtain ⟨vs, r1, r2⟩ := gdBs_ok (g := g) h3
      exact ⟨.ref a, rfl, fun Z M H => .tup (.inr ⟨_, its, n, e, congrArg Value.type (of_decide_eq_true h1), rfl, of_decide_eq_true h2, r1⟩) (r2 Z M H)⟩
    · cases h
theorem gdBs_ok {g : Ge} : ∀ {ds : List D} {us : List Value}, gdBs g.K ds us = true → ∃ vs, L2.Vals vs us ∧ ∀ Z M H, Reps g Z M H vs ds
  | [], [], _ => ⟨[], .nil, fun _ _ _ => .nil⟩
  | d :: ds, u :: us, h => by
    unfold gdBs at h
    rw [Bool.and_eq_true] at h
    obtain ⟨v, r1, r2⟩ := gdB_ok (g := g) h.1
    obtain ⟨vs, r3, r4⟩ := gdBs_ok (g := g) h.2
    exact ⟨v :: vs, .cons r1 r3, fun Z M H => .cons (r2 Z M H) (r4 Z M H)⟩
end
def gdG (K : PySem.W.Frag) (p : Str × D) : Bool := match PySem.W.nsIn K mainGlobals p.1 with
  | some (some u) => gdB K p.2 u
  | _ => false
theorem gdG_ok {K : PySem.W.Frag} {h : Heap} {mg : Str → Option Value} (X : K.In h) (G : h.Ns mainGlobals mg) {p : Str × D} (c : gdG K p = true) : GD K mg p.1 p.2 := by
  unfold gdG at c
  split at c
  · rename_i u e
    obtain ⟨v, r1, r2⟩ := gdB_ok (g := ⟨K, mg⟩) c
    exact ⟨v, u, PySem.W.mg_of X G e, r1, r2⟩
  · cases c
def SaysC' (fa : List He.Fa) (fn : List He.DefD) (gs : List (Str × D)) (K : PySem.W.Frag) : Prop := He.SaysD fa fn K ∧ gs.all (gdG K) = true
theorem SaysC'.gd {fa : List He.Fa} {fn : List He.DefD} {gs : List (Str × D)} {K : PySem.W.Frag} {h : Heap} {mg : Str → Option Value} (c : SaysC' fa fn gs K) (X : K.In h) (G : h.Ns mainGlobals mg) {p : Str × D} (hp : p ∈ gs) : GD K mg p.1 p.2 :=
  gdG_ok X G (List.all_eq_true.mp c.2 p hp)
/-- the script's ints are small enough -/
theorem bits_si {n : Int} {m : Nat} (h : Builtin.Int.intBits n ≤ m) : n.natAbs < 2 ^ m := by
  unfold Builtin.Int.intBits at h
  by_cases e : n.natAbs = 0
  · rw [e]; exact Nat.two_pow_pos _
  · have hz : (n == 0) = false := by simp; omega
    rw [hz] at h
    exact (Nat.log2_lt e).mp (by simp at h; omega)
end VS
set_option Elab.async false
set_option linter.all false
set_option maxRecDepth 100000
set_option maxHeartbeats 4000000
/-! VS21: facts of the module for suites. Own work. -/
namespace VS
open PySem PySem.Spec PyProof.Rows
open L2 (V Hp HO upd SqL SqT Rd Cx Sp FnOk)
/-- facts: which class is of which; what a class of errors has -/
inductive Xa where
  | own (cn y : Str) (b : Bool)
  | blt (cn y : Str) (n : String) (b : Bool)
  | exc (cn : Str)
  | xf (cn f : Str)
def Xa.ok (K : PySem.W.Frag) : Xa → Bool
  | .own cn y b => decide (PySem.W.kitOne K (.ref (He.ga K cn)) (.ref (He.ga K y)) = some b)
  | .blt cn y n b => decide (bootBuiltins y = some (.type n)) && (decide (y ≠ "__name__") && decide (PySem.W.kitOne K (.ref (He.ga K cn)) (.type n) = some b))
  | .exc cn => decide (PySem.W.findIn K (.ref (He.ga K cn)) "__getattribute__" = some (some (.builtin "BaseException.__getattribute__"))) && (decide (PySem.W.findIn K (.ref (He.ga K cn)) "__getattr__" = some none) && (decide (PySem.W.subIn K (.ref (He.ga K cn)) (.type "BaseException") = some true) && (PySem.W.hasDictIn K (He.ga K cn) && (decide (PySem.W.findIn K (.ref (He.ga K cn)) "__class__" = some (some (.builtin "object.__class__"))) && (decide (PySem.W.specialIn K (.builtin "object.__class__") "__get__" = some (some (.builtin "getset_descriptor.__get__"))) && (decide (PySem.W.takesIn K (.builtin "object.__class__") = some true) && decide (PySem.W.mroIn K (He.ga K cn) (.type "object") = some true)))))))
  | .xf cn f => decide (PySem.W.findIn K (.ref (He.ga K cn)) f = some none)
theorem Xa.exc_ok {K : PySem.W.Frag} {cn : Str} (h : Xa.ok K (.exc cn) = true) : L2.ExcC K (He.ga K cn) := by
  unfold Xa.ok at h
  simp only [Bool.and_eq_true, decide_eq_true_eq] at h
  obtain ⟨h1, h2, h3, h4, h5, h6, h7, h8⟩ := h
  exact ⟨h1, h2, h3, h4, h5, h6, h7, h8⟩
abbrev AlX : Type := He.AlD × (Bool × Bool)
def SaysX' (fa : List He.Fa) (fn : List He.DefD) (gs : List (Str × D)) (xa : List Xa) (K : PySem.W.Frag) : Prop := SaysC' fa fn gs K ∧ xa.all (Xa.ok K) = true
end VS
set_option Elab.async false
set_option linter.all false
set_option maxRecDepth 100000
set_option maxHeartbeats 4000000
/-! VS22: a, b = a tuple or a list. Own work. -/
namespace VS
open PySem PySem.Spec PyProof.Rows
open L2 (V Hp HO upd SqL SqT Rd Cx TE TT TA TS TG TGs VK XK WX PE PT PA PS PSs PG PGs OpR RelV CallR Sp FnOk atI)
section
variable {X : Cx} {c : Fr} {W : WX} {p p1 p2 : Bool} {M M' M2 : Addr → Prop} {T T' as as1 as2 : List Addr} {σ : L2.St} {H H' H2 : Hp} {ρ ρ' ρ2 : Rho}
def gU (n : Nat) (g : GSs) : GS := fun s ρ K => match s with
  | .v (.lst _ ds) => ds.length = n ∧ g (ds.map .v) ρ K
  | .l ds => ds.length = n ∧ g (ds.map .v) ρ K
  | s => gT n g s ρ K
end
/-! sizes of a fraction's parts -/
theorem Rat.nz (q : Rat) : (q.den : Int) ≠ 0 := by have := q.den_nz; omega
end VS
set_option Elab.async false
set_option linter.all false
set_option maxRecDepth 100000
set_option maxHeartbeats 4000000
/-! VS23: raise of a class whose __init__ keeps fields. Own work. -/
namespace VS
open PySem PySem.Spec PyProof.Rows
open L2 (V Hp HO upd SqL SqT Rd Cx TE TT TA TS TG TGs VK XK WX PE PT PA PS PSs PG PGs OpR RelV CallR Sp FnOk atI)
def raiseIS (cn : Str) (fl : List Str) (g : AS) : SS := fun ρ k => g ρ (fun xs ρ' => match allV xs with
  | some ds => (ds.length = fl.length ∧ ds.length ≤ 100) ∧ k.ex ⟨cn, fl.reverse, ds.reverse⟩ ρ'
  | none => False) k.ex
section
variable {X : Cx} {c : Fr} {W : WX} {p : Bool}
theorem Reps.rev {g : Ge} {Z M : Addr → Prop} {H : Hp} : ∀ {vs : List V} {ds : List D}, Reps g Z M H vs ds → Reps g Z M H vs.reverse ds.reverse
  | _, _, .nil => .nil
  | _, _, .cons r rs => by
    rw [List.reverse_cons, List.reverse_cons]
    exact rs.rev.append (.cons r .nil)
end
end VS
set_option Elab.async false
set_option linter.all false
set_option maxRecDepth 100000
set_option maxHeartbeats 4000000
/-! VS24: an __init__ that keeps one, two or three fields; facts of such classes. Own work. -/
namespace VS
open PySem PySem.Spec PyProof.Rows
open L2 (V Hp HO upd SqL SqT Rd Cx TE TT TA TS TG TGs VK XK WX PE PT PA PS PSs PG PGs OpR RelV CallR Sp FnOk atI)
/-- facts of a class with such an __init__, of the base -/
inductive Xb where
  | oex (cn : Str)
  | kbs (y : Str)
  | sup (cn m : Str)
def oexB (K : PySem.W.Frag) (C : Addr) : Bool := match K.lookup C with
  | some ⟨.type t, _, .cls cd, sl⟩ => decide (t = "type") && ((match cd.mro, sl.toList with
    | .ref C' :: bm, [_, _, _, _, some (.builtin n), _] => decide (C' = C) && (decide (n = "ValueError.__new__") && PySem.HandSPX.refsVE bm)
    | _, _ => false) && (cd.hasDict && !cd.hasDel))
  | _ => false
def Xb.ok (K : PySem.W.Frag) : Xb → Bool
  | .oex cn => oexB K (He.ga K cn) && (decide (PySem.W.findIn K (.ref (He.ga K cn)) "__setattr__" = some (some (.builtin "object.__setattr__"))) && (decide (PySem.W.subIn K (.ref (He.ga K cn)) (.type "BaseException") = some true) && (decide (PySem.W.typeIn K (.ref (He.ga K cn)) = some (.type "type")) && (PySem.W.keepIn K (.ref (He.ga K cn)) &&
      (decide (PySem.W.findIn K (.ref (He.ga K cn)) "__init__" = some (some (.ref (He.ma K (He.ga K cn) "__init__")))) && decide (PySem.W.typeIn K (.ref (He.ma K (He.ga K cn) "__init__")) = some (.type "function")))))))
  | .kbs y => PySem.W.readsIn K (He.ga K y) (.type "type") && (decide (PySem.W.specialIn K (.ref (He.ga K y)) "__getattribute__" = some (some (.builtin "type.__getattribute__"))) && (match PySem.W.findCls K (.ref (He.ga K y)) (.type "type") "__init__" with
    | some (.val v) => decide (v = .builtin "ValueError.__init__")
    | _ => false))
  | .sup y m => PySem.W.readsIn K (He.ga K y) (.type "type") && (decide (PySem.W.specialIn K (.ref (He.ga K y)) "__getattribute__" = some (some (.builtin "type.__getattribute__"))) && (match PySem.W.findCls K (.ref (He.ga K y)) (.type "type") m with
    | some (.val v) => decide (v = .ref (He.ma K (He.ga K y) m))
    | _ => false))
abbrev AlY : Type := AlX × Bool
/-- what is looked at: the module's, and where the statics stand -/
def asY (g : Addr → Option Obj) (n : Nat) : List Addr := cStatics :: He.asD g n
def obsY (n : Nat) (fa : List He.Fa) (fn : List He.DefD) (gs : List (Str × D)) (xa : List Xa) (xb : List Xb) (g : Addr → Option Obj) : AlY :=
  ((He.obsD fa fn (He.frG g (asY g n)), gs.all (gdG (He.frG g (asY g n))), xa.all (Xa.ok (He.frG g (asY g n)))), xb.all (Xb.ok (He.frG g (asY g n))))
def SaysY' (fa : List He.Fa) (fn : List He.DefD) (gs : List (Str × D)) (xa : List Xa) (xb : List Xb) (K : PySem.W.Frag) : Prop := SaysX' fa fn gs xa K ∧ xb.all (Xb.ok K) = true
def hookY (n : Nat) (fa : List He.Fa) (fn : List He.DefD) (gs : List (Str × D)) (xa : List Xa) (xb : List Xb) : PySem.W.Hook where
  α := AlY
  obs := fun s => obsY n fa fn gs xa xb s.heap.get?
  val := fun _ => ((He.valD fn, true, true), true)
  says := fun _ h => ∃ K : PySem.W.Frag, K.In h ∧ SaysY' fa fn gs xa xb K
  of := fun _ _ e => ⟨_, He.frG_in, ⟨⟨congrArg (fun z : AlY => z.1.1) e, congrArg (fun z : AlY => z.1.2.1) e⟩, congrArg (fun z : AlY => z.1.2.2) e⟩, congrArg (fun z : AlY => z.2) e⟩
  keeps := fun _ _ _ ⟨K, hK, c⟩ k => ⟨K, PySem.W.Frag.In.keeps hK k, c⟩
theorem obsY_eq {n : Nat} {fa : List He.Fa} {fn : List He.DefD} {gs : List (Str × D)} {xa : List Xa} {xb : List Xb} {g : Addr → Option Obj} {s : Shared} (h : ∀ a, g a = s.heap.get? a) : obsY n fa fn gs xa xb g = (hookY n fa fn gs xa xb).obs s := by
  have e : g = s.heap.get? := funext h
  rw [e] <;> rfl
end VS
set_option Elab.async false
set_option linter.all false
set_option maxRecDepth 100000
set_option maxHeartbeats 4000000
/-! VS25: list(range(..)), dict displays, slices, sorted ints, int of a bool. Own work. -/
namespace VS
open PySem PySem.Spec PyProof.Rows
open L2 (V Hp HO upd SqL SqT Rd Cx TE TT TA TS TG TGs VK XK WX PE PT PA PS PSs PG PGs OpR RelV CallR Sp FnOk atI)
section
variable {X : Cx} {c : Fr} {W : WX} {p p1 p2 p3 : Bool} {M M' M2 : Addr → Prop} {T T' as as1 as2 : List Addr} {σ : L2.St} {H H' H2 : Hp} {ρ ρ' ρ2 : Rho} {f g h : ES} {pos : Pos}
/-- list(range(n)) -/
def lrE (f : ES) : ES := fun ρ K E => f ρ (fun x ρ' => match x with
  | .v (.int n) => (n ≤ 100000 ∧ -100000 ≤ n) ∧ K (.m (.l (rngD 0 n.toNat))) ρ'
  | _ => False) E
/-! sorted ints -/
def intsD : List D → Option (List Int)
  | [] => some []
  | .int i :: ds => (intsD ds).map (i :: ·)
  | _ :: _ => none
def sortC : CR := fun xs K _ ρ => match xs with
  | [x] => (match (asL x).bind intsD with
    | some is => ∀ js : List Int, js.Perm is → js.Pairwise (· ≤ ·) → K (.m (.l (js.map .int))) ρ
    | none => False)
  | _ => False
/-- int(a truth or an int) -/
def intC : CR := fun xs K _ ρ => match xs with
  | [.v (.bl b)] => K (.v (.int (if b then 1 else 0))) ρ
  | [.v (.int i)] => K (.v (.int i)) ρ
  | _ => False
/-! slices of lists -/
abbrev OS := Rho → (Option Int → Rho → Prop) → (Exc → Rho → Prop) → Prop
def cutD (ds : List D) (lo hi : Option Int) : List D := (ds.drop (HT.sIx ds.length 0 lo)).take (HT.sIx ds.length ds.length hi - HT.sIx ds.length 0 lo)
theorem Reps.cut {g : Ge} {Z : Addr → Prop} {vs : List V} {ds : List D} (r : Reps g Z M H vs ds) (lo hi : Option Int) : Reps g Z M H (L2.cutV vs lo hi) (cutD ds lo hi) := by
  unfold L2.cutV cutD
  rw [r.length]
  exact (r.drop _).take _
def intO (p : Bool) (f : Option ES) : OS := match f with
  | none => fun ρ K _ => K none ρ
  | some f => fun ρ K E => f ρ (fun x ρ' => match x with
    | .v (.int i) => K (some i) ρ'
    | _ => False) E
/-- a part of a slice that changes nothing -/
structure OJ (X : Cx) (c : Fr) (W : WX) (e : Option Expr) (f : Option ES) : Prop where
  ex : (e = none ∧ f = none) ∨ ∃ a g, e = some a ∧ f = some g ∧ EJ X c W true a g
theorem oj_none : OJ X c W none none := ⟨.inl ⟨rfl, rfl⟩⟩
theorem oj_some {a : Expr} (h : EJ X c W true a g) : OJ X c W (some a) (some g) := ⟨.inr ⟨a, g, rfl, rfl, h⟩⟩
def slE (f : ES) (g h : Option ES) : ES := fun ρ K E => f ρ (fun x ρ1 => intO true g ρ1 (fun i ρ2 => intO true h ρ2 (fun j ρ3 => match asL x with
  | some ds => K (.m (.l (cutD ds i j))) ρ3
  | none => False) E) E) E
theorem intO_mono {g : Option ES} {e : Option Expr} (hg : OJ X c W e g) {K K' : Option Int → Rho → Prop} {E E' : Exc → Rho → Prop} (hk : ∀ x ρ, K x ρ → K' x ρ) (he : ∀ x ρ, E x ρ → E' x ρ) {ρ : Rho} (q : intO true g ρ K E) : intO true g ρ K' E' := by
  rcases hg.ex with ⟨rfl, rfl⟩ | ⟨a, g, rfl, rfl, hh⟩
  · exact hk _ _ q
  · exact hh.mono _ _ _ _ _ (fun x ρ' q => by
      split at q
      · exact hk _ _ q
      · exact q) he q
theorem po_of {g : Option ES} {e : Option Expr} (hg : OJ X c W e g) : ∃ t : L2.TO, L2.PO X e t ∧ ∀ (σ : L2.St) (ρ : Rho) (M : Addr → Prop) (T : List Addr) (H : Hp) (Q : Option Int → Hp → Prop), SR c M T σ H ρ → intO true g ρ (fun i ρ' => ∀ H' M', Post c true σ M T H M' T H' ρ' → Q i H') (fun x ρ' => ∀ cls dd H' M', Post c false σ M T H M' T H' ρ' → XRep c M' H' cls dd x → W cls dd σ H') → t σ H Q := by
  rcases hg.ex with ⟨rfl, rfl⟩ | ⟨a, g, rfl, rfl, hh⟩
  · exact ⟨_, L2.po_none, fun σ ρ M T H Q s q => q H M (Post.refl s)⟩
  · refine ⟨_, L2.po_some hh.run, fun σ ρ M T H Q s q => ⟨ρ, M, T, s, hh.mono _ _ _ _ _ (fun x ρ' q v H' M' as q1 r1 => ?_) (fun _ _ z => z) q⟩⟩
    split at q
    · exact ⟨_, r1.int, q H' M' q1.drop⟩
    · exact q.elim
end
end VS
set_option Elab.async false
set_option linter.all false
set_option maxRecDepth 100000
set_option maxHeartbeats 4000000
/-! VS28: == of a dict and a tuple. Own work. -/
namespace VS
open PySem PySem.Spec PyProof.Rows PyProof.V PySem.SeqAt
open L2 (V Hp HO upd SqL SqT Rd Cx TE TT TA TS TG TGs VK XK WX PE PT PA PS PSs PG PGs OpR RelV CallR Sp FnOk atI Inv)
section
variable {X : Cx} {c : Fr} {W : WX} {p p1 p2 : Bool}
/-- == : data to be compared, or a dict and a tuple -/
def eqXR : BR := fun x y K E ρ => match asD x, asD y with
  | some (.dct _ _), some (.tup _) => K (.v (.bl false)) ρ
  | some a, some b => (cmpD a = true ∧ cmpD b = true ∧ min (depD a) (depD b) ≤ 100) ∧ K (.v (.bl (eqD a b))) ρ
  | _, _ => False
end
/-! a call that leaves the last argument to its default -/
end VS
set_option Elab.async false
set_option linter.all false
set_option maxRecDepth 100000
set_option maxHeartbeats 4000000
/-! VS29: slices of tuples and lists, tuples put together, a tuple many times. Own work. -/
namespace VS
open PySem PySem.Spec PyProof.Rows
open L2 (V Hp HO upd SqL SqT Rd Cx TE TT TA TS TG TGs VK XK WX PE PT PA PS PSs PG PGs OpR RelV CallR Sp FnOk atI)
section
variable {X : Cx} {c : Fr} {W : WX} {p p1 p2 p3 : Bool} {M M' M2 : Addr → Prop} {T T' as as1 as2 : List Addr} {σ : L2.St} {H H' H2 : Hp} {ρ ρ' ρ2 : Rho} {f g h : ES} {pos : Pos}
def rSlX (K : PySem.W.Frag) : V → Option Int → Option Int → Hp → VK → Prop := fun x lo hi H Q => L2.rSlL K x lo hi H Q ∨ L2.rSlA K x lo hi H Q
theorem sl_x : L2.SlR X (rSlX X.K) := by
  intro pins s σ H x v vl vu lo hi sl Q I rx hs pl pu h
  rcases h with h | h
  · exact L2.sl_list pins s σ H x v vl vu lo hi sl Q I rx hs pl pu h
  · exact L2.sl_tupA pins s σ H x v vl vu lo hi sl Q I rx hs pl pu h
def slX (f : ES) (g h : Option ES) : ES := fun ρ K E => f ρ (fun x ρ1 => intO true g ρ1 (fun i ρ2 => intO true h ρ2 (fun j ρ3 => match x with
  | .v (.tup ds) => K (.v (.tup (cutD ds i j))) ρ3
  | x => (match asL x with
    | some ds => K (.m (.l (cutD ds i j))) ρ3
    | none => False)) E) E) E
theorem cut_whole {vs : List V} {lo hi : Option Int} (h : HT.sIx vs.length 0 lo = 0 ∧ HT.sIx vs.length vs.length hi = vs.length) : L2.cutV vs lo hi = vs := by
  unfold L2.cutV
  rw [h.1, h.2, List.drop_zero, Nat.sub_zero, List.take_length]
theorem ej_slX {a : Expr} {lo hi : Option Expr} {f : ES} {g h : Option ES} {p2' : Pos} (hK : X.K = c.g.K) (ha : EJ X c W p a f) (hg : OJ X c W lo g) (hh : OJ X c W hi h) : EJ X c W p (.Subscript a (.Slice lo hi none p2') pos) (slX f g h) := by
  obtain ⟨tl, pl, ul⟩ := po_of hg
  obtain ⟨th, ph, uh⟩ := po_of hh
  refine ⟨fun ρ K K' E E' hk he q => ha.mono _ _ _ _ _ (fun x ρ1 q => intO_mono hg (fun i ρ2 q => intO_mono hh (fun j ρ3 q => ?_) he q) he q) he q, PE.imp (L2.pe_slice sl_x ha.run pl ph) ?_⟩
  · split at q
    · exact hk _ _ q
    · split at q
      · exact hk _ _ q
      · exact q
  · rintro σ H Q ⟨ρ, M, T, s, k⟩
    refine ⟨ρ, M, T, s, ha.mono _ _ _ _ _ (fun x ρ1 k v H1 M1 as1 q1 r1 => ?_) (fun _ _ z => z) k⟩
    have ht : ∀ z ∈ T, z ∈ as1 ++ T := fun z hz => List.mem_append_right _ hz
    refine ul σ ρ1 M1 (as1 ++ T) H1 _ q1.sr (intO_mono hg (fun i ρ2 k H2 M2 q2 => ?_) (fun x ρ2 k cls dd H2 M2 q2 r2 => k cls dd H2 M2 (q1.trans q2 ht).weak.drop r2) k)
    have q12 := q1.trans q2 ht
    rw [Bool.and_true] at q12
    have r2 := r1.next q1.sr q2 (fun a ha => List.mem_append_left _ ha) (by cases x <;> first | rfl | trivial)
    refine uh σ ρ2 M2 (as1 ++ T) H2 _ q12.sr (intO_mono hh (fun j ρ3 k H3 M3 q3 => ?_) (fun x ρ3 k cls dd H3 M3 q3 r3 => k cls dd H3 M3 (q12.trans q3 ht).weak.drop r3) k)
    have q13 := q12.trans q3 ht
    rw [Bool.and_true] at q13
    have r3 := r2.next q12.sr q3 (fun a ha => List.mem_append_left _ ha) (by cases x <;> first | rfl | trivial)
    split at k
    · rename_i ds
      refine .inr ?_
      obtain ⟨l, vs, rfl, t, rs⟩ := r3.tuple rfl
      refine ⟨l, vs, rfl, hK ▸ t, fun hw => ?_, fun _ pa hp => ?_⟩
      · have rc := rs.cut i j
        rw [cut_whole hw] at rc
        exact k _ _ M3 [] q13.drop (.v (.tup t rc))
      · exact k _ _ M3 [] (q13.drop.ext (Ext.new hp)) (.v (.tup (.inl (.inl L2.upd_same)) ((rs.cut i j).ext (Ext.new hp))))
    · refine .inl ?_
      split at k
      · rename_i ds e
        obtain ⟨l, vs, rfl, t, rs⟩ := r3.list e
        refine ⟨l, vs, rfl, hK ▸ t, fun pa hp => ?_⟩
        exact k _ _ _ [pa] (q13.drop.own hp (.inl ⟨_, L2.upd_same⟩)) (.m (.l L2.upd_same ((rs.cut i j).moved (Post.own_mv hp))))
      · exact k.elim
/-! t + u -/
def addT : BR := fun x y K _ ρ => match x, y with
  | .v (.tup a), .v (.tup b) => a.length + b.length ≤ 100000 ∧ K (.v (.tup (a ++ b))) ρ
  | _, _ => False
/-! t * n -/
def repT : BR := fun x y K _ ρ => match x, y with
  | .v (.tup a), .v (.int n) => (a ≠ [] ∧ 2 ≤ n ∧ n ≤ 1000 ∧ a.length ≤ 1000) ∧ K (.v (.tup (List.replicate n.toNat a).flatten)) ρ
  | _, _ => False
end
end VS
set_option Elab.async false
set_option linter.all false
set_option maxRecDepth 100000
set_option maxHeartbeats 4000000
/-! VS30: list comprehensions whose item changes what is owned. Own work. -/
namespace VS
open PySem PySem.Spec PyProof.Rows
open L2 (V Hp HO upd SqL SqT Rd Cx TE TT TA TS TG TGs TI It VK XK WX PE PT PTs PA PS PSs PG PGs PI OpR RelV CallR Sp FnOk atI wipe)
def compDx (vs : List Nat) (g : GS) (f : ES) : Rho → List D → List D → (List D → Rho → Prop) → Prop
  | ρ, [], acc, K => K acc ρ
  | ρ, d :: ds, acc, K => g (.v d) ρ (fun ρ1 => f ρ1 (fun x ρ3 => match evD x with
      | some e => compDx vs g f (wipeR ρ3 vs) ds (acc ++ [e]) K
      | none => False) (fun _ _ => False))
def compX (vs : List Nat) (it : IS) (g : GS) (f : ES) : ES := fun ρ K E => it ρ (fun ds ρ1 => ds.length ≤ 1000000 ∧ compDx vs g f (wipeR ρ1 vs) ds [] (fun out ρ2 => K (.m (.l out)) ρ2)) E
end VS
set_option Elab.async false
set_option linter.all false
set_option maxRecDepth 100000
set_option maxHeartbeats 4000000
/-! VS31: != of lists of the same data, dicts and tuples among it. Own work. -/
namespace VS
open PySem PySem.Spec PyProof.Rows PyProof.V PySem.SeqAt
open MeetsSeq MeetsSeq2 MeetsSeq3 SeqRoads2
open L2 (V Hp HO upd SqL SqT Rd Cx TE TT TA TS TG TGs VK XK WX PE PT PA PS PSs PG PGs OpR RelV CallR Sp FnOk atI Inv)
mutual
/-- data of which the same is equal: keys all apart -/
def samD : D → Bool
  | .tup ds => samDs ds
  | .lst _ ds => samDs ds
  | .dct ks ds => decide ks.Nodup && samDs ds
  | .ty _ => false
  | .fn _ => false
  | _ => true
def samDs : List D → Bool
  | [] => true
  | d :: ds => samD d && samDs ds
end
mutual
def hgtD : D → Nat
  | .tup ds => hgtDs ds + 1
  | .lst _ ds => hgtDs ds + 1
  | .dct _ ds => hgtDs ds + 1
  | _ => 1
def hgtDs : List D → Nat
  | [] => 0
  | d :: ds => max (hgtD d) (hgtDs ds)
end
def flatD : D → Bool
  | .non => true
  | .bl _ => true
  | .int _ => true
  | .str _ => true
  | _ => false
theorem Reps.put : ∀ {g : Ge} {Z M : Addr → Prop} {H : Hp} {vs : List V} {ds : List D}, Reps g Z M H vs ds → ∀ {i : Nat} {d : D}, ds[i]? = some d → ∃ v, vs[i]? = some v ∧ Rep g Z M H v d
  | _, _, _, _, _, _, .nil, _, _, e => by simp at e
  | _, _, _, _, _, _, .cons r rs, 0, _, e => by cases e; exact ⟨_, rfl, r⟩
  | _, _, _, _, _, _, .cons r rs, i + 1, _, e => rs.put (by simpa using e)
section
variable {X : Cx} {c : Fr} {W : WX} {p p1 p2 : Bool}
/-- != of any data, the same lists and dicts that hold dicts among it -/
def neYR : BR := fun x y K E ρ => match x, y with
  | .v (.lst _ d1), .v (.lst _ d2) => ((d1 = d2 ∧ samDs d1 = true ∧ hgtDs d1 ≤ 60) ∧ K (.v (.bl false)) ρ) ∨ eqR true x y K E ρ
  | .v (.dct k1 d1), .v (.dct k2 d2) => (d1 = d2 ∧ k1 = k2 ∧ k1.Nodup ∧ ∀ d ∈ d1, flatD d = true) ∧ K (.v (.bl false)) ρ
  | x, y => eqR true x y K E ρ
end
end VS
set_option Elab.async false
set_option linter.all false
set_option maxRecDepth 100000
set_option maxHeartbeats 4000000
/-! VS32: list(reversed(a list)). Own work. -/
namespace VS
open PySem PySem.Spec PyProof.Rows PyProof.V
open L2 (V Hp HO upd SqL SqT Rd Cx TE TT TA TS TG TGs VK XK WX PE PT PA PS PSs PG PGs OpR RelV CallR Sp FnOk atI Inv)
section
variable {X : Cx} {c : Fr} {W : WX} {p : Bool} {pos pos' : Pos}
def lrevE (f : ES) : ES := fun ρ K E => f ρ (fun x ρ' => match asL x with
  | some ds => K (.m (.l ds.reverse)) ρ'
  | none => False) E
end
end VS
set_option Elab.async false
set_option linter.all false
set_option maxRecDepth 100000
set_option maxHeartbeats 4000000
/-! VS33: an owned tuple compared, and a list in it changed. Own work. -/
namespace VS
open PySem PySem.Spec PyProof.Rows
open L2 (V Hp HO upd SqL SqT Rd Cx TE TT TA TS TG TGs VK XK WX PE PT PA PS PSs PG PGs OpR RelV CallR Sp FnOk atI)
section
variable {X : Cx} {c : Fr} {W : WX} {p p1 p2 : Bool} {M M1 M' M2 : Addr → Prop} {T T' as as1 as2 : List Addr} {σ σ1 : L2.St} {H H1 H' H2 : Hp} {ρ ρ1 ρ' ρ2 : Rho}
def heldR (i : Nat) (ρ : Rho) : Prop := match ρ[i]? with
  | some .no => False
  | some _ => True
  | none => False
/-- name == e, name != e: what the name holds, its own or not -/
def cmpO (neg : Bool) (i : Nat) (g : ES) : ES := fun ρ K E => heldR i ρ ∧ g ρ (fun y ρ2 => match ρ2[i]? with
  | some s => (match frSl s, asD y with
    | some a, some b => (cmpD a = true ∧ cmpD b = true ∧ min (depD a) (depD b) ≤ 100) ∧ K (.v (.bl (if neg then !eqD a b else eqD a b))) ρ2
    | _, _ => False)
  | none => False) E
/-! a list that nobody else holds is changed -/
/-- e.append(n), e a list that nobody else holds -/
def appT (f : ES) (n : Int) : ES := fun ρ K E => f ρ (fun x ρ1 => match x with
  | .m (.l ds) => ds.length < 1000000 ∧ K (.v .non) ρ1
  | _ => False) E
end
end VS
set_option Elab.async false
set_option linter.all false
set_option maxRecDepth 100000
set_option maxHeartbeats 4000000
/-! VS34: in and not in, of lists of data. Own work. -/
namespace VS
open PySem PySem.Spec PyProof.Rows
open L2 (V Hp HO upd SqL SqT Rd Cx TE TT TA TS TG TGs VK XK WX PE PT PA PS PSs PG PGs OpR RelV CallR Sp FnOk atI)
section
variable {X : Cx} {c : Fr} {W : WX} {p p1 p2 : Bool}
def rInP (K : PySem.W.Frag) (neg : Bool) : L2.R2 := fun x y H Q => ∃ d ds, L2.Dp K H x d ∧ L2.Dp K H y (.list ds) ∧ d.plain = true ∧ PyData.plainAll ds = true ∧ min (PyData.depthAll ds) d.depth ≤ 60 ∧ Q (.bl (if neg then !(ds.any fun z => PyData.eqv z d) else ds.any fun z => PyData.eqv z d)) H
theorem op_notInP (hu : X.A.units + 128 < cLine) : OpR X (compareOp .NotIn) (rInP X.K true) := by
  intro pins s σ H x y v u Q I rx ry h
  obtain ⟨d, ds, hd, he, sd, se, hm, q⟩ := h
  obtain ⟨as, r1⟩ := L2.Dp.reads I d x v hd rx
  obtain ⟨bs, r2⟩ := L2.Dp.reads I (.list ds) y u he ry
  exact SeqAt.notIn_list_data r2 r1 se sd (by omega) ⟨.bl _, H, I, rfl, q⟩
theorem pys_any {a : D} (ha : cmpD a = true) : ∀ ds : List D, cmpDs ds = true → ((pys ds).any fun z => PyData.eqv z (py a)) = ds.any fun z => eqD z a
  | [], _ => rfl
  | d :: ds, h => by
    rw [cmpDs, Bool.and_eq_true] at h
    rw [pys, List.any_cons, List.any_cons, py_eqv d a h.1 ha, pys_any ha ds h.2]
def inR (neg : Bool) : BR := fun x y K _ ρ => match asD x, asD y with
  | some a, some (.lst _ ds) => (cmpD a = true ∧ cmpDs ds = true ∧ min (depDs ds) (depD a) ≤ 60) ∧ K (.v (.bl (if neg then !(ds.any fun z => eqD z a) else ds.any fun z => eqD z a))) ρ
  | _, _ => False
theorem inR_mono {neg : Bool} : MonoR (inR neg) := fun x y ρ K K' E E' hk _ h => by
  unfold inR at h ⊢
  split at h
  · exact ⟨h.1, hk _ _ h.2⟩
  · exact h
theorem inR_says {neg : Bool} (hK : X.K = c.g.K) : Says c (rInP X.K neg) (inR neg) := by
  intro p σ M T H M2 H2 ρ2 as1 as2 v u x y Q E q r1 r2 h
  unfold inR at h
  split at h
  · rename_i a st ds ea eb
    obtain ⟨⟨ca, cb, dp⟩, k⟩ := h
    have cb' : cmpD (.lst st ds) = true := cb
    have e2 : py (.lst st ds) = .list (pys ds) := by rw [py]
    refine ⟨py a, pys ds, hK ▸ r1.dp ea ca, hK ▸ e2 ▸ r2.dp eb cb', py_plain a, ?_, by rw [py_depth, pys_depth]; exact dp, ?_⟩
    · have := py_plain (.lst st ds)
      rw [e2] at this
      simpa [PyData.plain] using this
    · rw [pys_any ca ds cb]
      exact k _ H2 M2 [] q.drop.drop (.v (.bl _))
  · exact h.elim
section
variable {a b : Expr} {f g : ES} {pos : Pos}
theorem tj_notin (hK : X.K = c.g.K) (hu : X.A.units + 128 < cLine) (ha : EJ X c W p1 a f) (hb : EJ X c W p2 b g) (hm : behindInMarks .NotIn b = false := by rfl) : TJ X c W (p1 && p2) (.Compare a [.NotIn] [b] pos) (bT (bin p2 f g (inR true))) := tj_cmp (op_notInP hu) inR_mono (inR_says hK) hm ha hb
end
end
end VS
set_option Elab.async false
set_option linter.all false
set_option maxRecDepth 100000
set_option maxHeartbeats 4000000
/-! VS48: sum of a list of ints. Own work. -/
namespace VS
open PySem PySem.Spec PyProof.Rows
open L2 (V Hp HO upd SqL SqT Rd Cx TE TT TA TS VK XK WX PE PT PA PS PSs OpR RelV CallR Sp FnOk atI)
section
variable {X : Cx} {c : Fr} {W : WX}
def sumC : CR := fun xs K _ ρ => match xs with
  | [x] => (match (asL x).bind intsD with
    | some is => K (.v (.int is.sum)) ρ
    | none => False)
  | _ => False
end
end VS
set_option Elab.async false
set_option linter.all false
set_option maxRecDepth 100000
set_option maxHeartbeats 4000000
/-! VM1: fractions as Rat, sizes of ints. Plain mathematics. Own work. -/
namespace VS
/-- the size of an int -/
def Si (n : Nat) (a : Int) : Prop := a.natAbs < 2 ^ n
theorem Si.mono {n m : Nat} {a : Int} (h : Si n a) (l : n ≤ m) : Si m a := Nat.lt_of_lt_of_le h (Nat.pow_le_pow_right (by decide) l)
theorem Si.add {n m : Nat} {a b : Int} (h : Si n a) (h2 : Si m b) : Si (max n m + 1) (a + b) := by
  have h := h.mono (Nat.le_max_left n m)
  have h2 := h2.mono (Nat.le_max_right n m)
  unfold Si at *
  rw [Nat.pow_succ]
  omega
theorem Si.neg {n : Nat} {a : Int} (h : Si n a) : Si n (-a) := by unfold Si at *; omega
theorem Si.sub {n m : Nat} {a b : Int} (h : Si n a) (h2 : Si m b) : Si (max n m + 1) (a - b) := by
  rw [Int.sub_eq_add_neg]; exact h.add h2.neg
theorem Si.mul {n m : Nat} {a b : Int} (h : Si n a) (h2 : Si m b) : Si (n + m) (a * b) := by
  unfold Si at *
  rw [Int.natAbs_mul, Nat.pow_add]
  exact Nat.mul_lt_mul'' h h2
theorem Si.log {n m : Nat} {a : Int} (h : Si n a) (h1 : n ≤ m) (h0 : 0 < m) : a.natAbs.log2 < m := by
  by_cases e : a.natAbs = 0
  · rw [e]; simpa using h0
  · exact (Nat.log2_lt e).mpr (h.mono h1)
theorem Si.of_le {n : Nat} {a b : Int} (h : Si n b) (l : a.natAbs ≤ b.natAbs) : Si n a := Nat.lt_of_le_of_lt l h
theorem MulOk.of {n m : Nat} {a b : Int} (h : Si n a) (h2 : Si m b) (l : n + m < 129999999) : MulOk a b := by
  have e1 := h.log (m := n + 1) (by omega) (by omega)
  have e2 := h2.log (m := m + 1) (by omega) (by omega)
  unfold MulOk; omega
/-- the size of a fraction -/
structure Sm (n : Nat) (q : Rat) : Prop where
  num : Si n q.num
  den : Si n (q.den : Int)
theorem Sm.mono {n m : Nat} {q : Rat} (h : Sm n q) (l : n ≤ m) : Sm m q := ⟨h.1.mono l, h.2.mono l⟩
theorem den_pos (q : Rat) : 0 < (q.den : Int) := by have := q.den_pos; omega
theorem den_ne (q : Rat) : (q.den : Int) ≠ 0 := by have := q.den_pos; omega
theorem num_eq (q : Rat) : (q.num : Rat) = q * ((q.den : Int) : Rat) := by
  have h : ((q.den : Int) : Rat) ≠ 0 := by simpa using q.den_nz
  have := Rat.num_divInt_den q
  rw [Rat.divInt_eq_div] at this
  grind
theorem nd (q : Rat) : (q.num : Rat) / ((q.den : Int) : Rat) = q := by
  rw [← Rat.divInt_eq_div]; exact Rat.num_divInt_den q
theorem frac_num {a b : Int} (hb : b ≠ 0) : ((a : Rat) / b).num = a.fdiv (if b < 0 then 0 - (Int.gcd a b : Int) else Int.gcd a b) := by
  rw [← Rat.divInt_eq_div, Rat.num_divInt, Int.gcd_comm b a]
  have g0 : (0 : Int) < (Int.gcd a b : Int) := by
    have := Int.gcd_pos_iff (a := a) (b := b); omega
  have hd : ((Int.gcd a b : Nat) : Int) ∣ a := Int.gcd_dvd_left ..
  obtain ⟨c, hc⟩ := hd
  generalize hg : ((Int.gcd a b : Nat) : Int) = g at *
  subst hc
  split
  · rename_i h
    rw [Int.sign_eq_neg_one_of_neg h]
    rw [show -1 * (g * c) = g * (-c) by grind, Int.mul_ediv_cancel_left _ (by omega)]
    rw [Int.fdiv_eq_ediv_of_dvd ⟨-c, by grind⟩, show g * c = (0 - g) * (-c) by grind, Int.mul_ediv_cancel_left _ (by omega)]
  · rename_i h
    rw [Int.sign_eq_one_of_pos (by omega), Int.one_mul, Int.mul_ediv_cancel_left _ (by omega), Int.fdiv_eq_ediv_of_dvd ⟨c, rfl⟩, Int.mul_ediv_cancel_left _ (by omega)]
theorem frac_den {a b : Int} (hb : b ≠ 0) : ((((a : Rat) / b).den : Nat) : Int) = b.fdiv (if b < 0 then 0 - (Int.gcd a b : Int) else Int.gcd a b) := by
  rw [← Rat.divInt_eq_div, Rat.den_divInt, if_neg hb, Int.gcd_comm b a]
  have g0 : (0 : Int) < (Int.gcd a b : Int) := by
    have := Int.gcd_pos_iff (a := a) (b := b); omega
  have hd : ((Int.gcd a b : Nat) : Int) ∣ b := Int.gcd_dvd_right ..
  obtain ⟨c, hc⟩ := hd
  have e : ((b.natAbs / Int.gcd a b : Nat) : Int) = (b.natAbs : Int) / (Int.gcd a b : Int) := rfl
  rw [e]
  generalize hg : ((Int.gcd a b : Nat) : Int) = g at *
  subst hc
  split
  · rename_i h
    have : ((g * c).natAbs : Int) = g * (-c) := by rw [Int.ofNat_natAbs_of_nonpos (by omega)]; grind
    rw [this, Int.mul_ediv_cancel_left _ (by omega)]
    rw [Int.fdiv_eq_ediv_of_dvd ⟨-c, by grind⟩, show g * c = (0 - g) * (-c) by grind, Int.mul_ediv_cancel_left _ (by omega)]
  · rename_i h
    have : ((g * c).natAbs : Int) = g * c := Int.natAbs_of_nonneg (by omega)
    rw [this, Int.mul_ediv_cancel_left _ (by omega), Int.fdiv_eq_ediv_of_dvd ⟨c, rfl⟩, Int.mul_ediv_cancel_left _ (by omega)]
theorem fdiv_le {a g : Int} (hg : g ≠ 0) (hd : g ∣ a) : (a.fdiv g).natAbs ≤ a.natAbs := by
  obtain ⟨c, rfl⟩ := hd
  rw [Int.fdiv_eq_ediv_of_dvd ⟨c, rfl⟩, Int.mul_ediv_cancel_left _ hg, Int.natAbs_mul]
  exact Nat.le_mul_of_pos_left _ (by omega)
theorem Sm.div {n m : Nat} {a b : Int} (ha : Si n a) (hb : Si m b) (h0 : b ≠ 0) : Sm (max n m) ((a : Rat) / b) := by
  have g0 : (0 : Int) < (Int.gcd a b : Int) := by
    have := Int.gcd_pos_iff (a := a) (b := b); omega
  have h1 : ((Int.gcd a b : Nat) : Int) ∣ a := Int.gcd_dvd_left ..
  have h2 : ((Int.gcd a b : Nat) : Int) ∣ b := Int.gcd_dvd_right ..
  refine ⟨?_, ?_⟩
  · rw [frac_num h0]
    refine (ha.mono (Nat.le_max_left n m)).of_le (fdiv_le (by split <;> omega) ?_)
    split
    · rw [Int.zero_sub]; exact Int.neg_dvd.mpr h1
    · exact h1
  · rw [frac_den h0]
    refine (hb.mono (Nat.le_max_right n m)).of_le (fdiv_le (by split <;> omega) ?_)
    split
    · rw [Int.zero_sub]; exact Int.neg_dvd.mpr h2
    · exact h2
theorem add_eq (p q : Rat) : p + q = ((p.num * q.den + q.num * p.den : Int) : Rat) / ((p.den * q.den : Int) : Rat) := by
  have h1 : ((p.den : Int) : Rat) ≠ 0 := by simpa using p.den_nz
  have h2 : ((q.den : Int) : Rat) ≠ 0 := by simpa using q.den_nz
  have e1 := num_eq p
  have e2 := num_eq q
  rw [Rat.intCast_add, Rat.intCast_mul, Rat.intCast_mul, Rat.intCast_mul]
  grind
theorem sub_eq (p q : Rat) : p - q = ((p.num * q.den - q.num * p.den : Int) : Rat) / ((p.den * q.den : Int) : Rat) := by
  have h1 : ((p.den : Int) : Rat) ≠ 0 := by simpa using p.den_nz
  have h2 : ((q.den : Int) : Rat) ≠ 0 := by simpa using q.den_nz
  have e1 := num_eq p
  have e2 := num_eq q
  rw [Rat.intCast_sub, Rat.intCast_mul, Rat.intCast_mul, Rat.intCast_mul]
  grind
theorem mul_eq (p q : Rat) : p * q = ((p.num * q.num : Int) : Rat) / ((p.den * q.den : Int) : Rat) := by
  have h1 : ((p.den : Int) : Rat) ≠ 0 := by simpa using p.den_nz
  have h2 : ((q.den : Int) : Rat) ≠ 0 := by simpa using q.den_nz
  have e1 := num_eq p
  have e2 := num_eq q
  rw [Rat.intCast_mul, Rat.intCast_mul]
  grind
theorem div_eq (p q : Rat) (hq : q ≠ 0) : p / q = ((p.num * q.den : Int) : Rat) / ((p.den * q.num : Int) : Rat) := by
  have h1 : ((p.den : Int) : Rat) ≠ 0 := by simpa using p.den_nz
  have h2 : ((q.den : Int) : Rat) ≠ 0 := by simpa using q.den_nz
  have e1 := num_eq p
  have e2 := num_eq q
  rw [Rat.intCast_mul, Rat.intCast_mul]
  grind
theorem Sm.add {n m : Nat} {p q : Rat} (h : Sm n p) (h2 : Sm m q) : Sm (n + m + 1) (p + q) := by
  rw [add_eq]
  exact (Sm.div (((h.1.mul h2.2).add (h2.1.mul h.2))) (h.2.mul h2.2) (Int.mul_ne_zero (den_ne p) (den_ne q))).mono (by omega)
theorem Sm.sub {n m : Nat} {p q : Rat} (h : Sm n p) (h2 : Sm m q) : Sm (n + m + 1) (p - q) := by
  rw [sub_eq]
  exact (Sm.div (((h.1.mul h2.2).sub (h2.1.mul h.2))) (h.2.mul h2.2) (Int.mul_ne_zero (den_ne p) (den_ne q))).mono (by omega)
theorem Sm.mul {n m : Nat} {p q : Rat} (h : Sm n p) (h2 : Sm m q) : Sm (n + m) (p * q) := by
  rw [mul_eq]
  exact (Sm.div (h.1.mul h2.1) (h.2.mul h2.2) (Int.mul_ne_zero (den_ne p) (den_ne q))).mono (by omega)
theorem num_ne {q : Rat} (h : q ≠ 0) : q.num ≠ 0 := fun e => h (Rat.num_eq_zero.mp e)
theorem Sm.quo {n m : Nat} {p q : Rat} (h : Sm n p) (h2 : Sm m q) (h0 : q ≠ 0) : Sm (n + m) (p / q) := by
  rw [div_eq p q h0]
  exact (Sm.div (h.1.mul h2.2) (h.2.mul h2.1) (Int.mul_ne_zero (den_ne p) (num_ne h0))).mono (by omega)
theorem Sm.int {n : Nat} {a : Int} (h : Si n a) : Sm (n + 1) (a : Rat) := ⟨by simpa using h.mono (by omega), by
  have := Nat.two_pow_pos n
  show ((((a : Rat).den : Nat) : Int)).natAbs < 2 ^ (n + 1)
  rw [Rat.den_intCast, Nat.pow_succ]; simp; omega⟩
/-! ### the loop of Euclid -/
def gcdT (i j : Nat) : BS := bT (bin true (vE j) (cE (.int 0)) gtR)
def gcdB (i j : Nat) : SS := parS i j (consA true (vE j) (consA true (bin true (vE i) (vE j) (intR (fun _ j => j ≠ 0) fun i j => .int (i.fmod j))) nilA))
theorem gcd_loop {i j : Nat} (hij : i ≠ j) (k : SK) : ∀ (n : Nat) (a b : Int) (ρ : Rho), ρ[i]? = some (.v (.int a)) → ρ[j]? = some (.v (.int b)) → 0 ≤ a → 0 ≤ b → b.toNat < n →
    k.nx ((ρ.set i (.v (.int (Int.gcd a b)))).set j (.v (.int 0))) → whileN (gcdT i j) (gcdB i j) n ρ k
  | 0, _, _, _, _, _, _, _, h, _ => by omega
  | n + 1, a, b, ρ, h1, h2, ha, hb, hn, h => by
    have hi : i < ρ.length := (List.getElem?_eq_some_iff.mp h1).1
    have hj : j < ρ.length := (List.getElem?_eq_some_iff.mp h2).1
    unfold whileN gcdT gcdB
    by_cases e : 0 < b
    · simp only [cE, vE, bE, rE, fE, mE, bin, nilA, consA, bT, andT, orT, notT, tupE, lstE, allV, allM, okB, intR, addR, asL, asT, asD, eqR, eqD_nn, eqD_bb, eqD_ii, eqD_ss, eqD_tt, eqD_ll, eqD_bi, eqD_ib, eqD_nt, eqD_tn, eqD_it, eqD_ti, eqD_ni, eqD_in, eqDs_nn, eqDs_cc, eqDs_nc, eqDs_cn, cmpD, cmpDs, depD, depDs, isNon, isNR, chainE, tvE, andV, orV, notV, ifE, slEV, ixR, callV, lenC, isiC, tyN, pick, retEV, callP, argD, argDs, seqS, bkS, ctS, exprS, retS, retNS, ifS, evSl, setS, SK.loop, gN, gNil, gCons, gT, asgS, parS, defF, defK, raiseS, absC, divmodC, mmC, stL, itL, itT, itR1, itR2, itE, shL, itZ, itV, forS, evD, methL, appL, clrL, popL, insL, trL, extL, setixS, argS, argSs, callI, callN, hereA, nextA, negE, itS, wipeR, compE, compD, yesT, seqD, listC, tupC, numd, zipd, nxS, frSl, retSl, retSls, retOk, retOks, tryAsS, tryOnlyS, lookB, kinE, xfE, lookF, frzE, isTR, isTB, allC, blsD, gU, raiseIS, at0, at1, at2, at3, h1, h2, e, decide_true, if_true, hi, hj, List.length_set, true_and]
      refine ⟨by omega, ?_⟩
      have e1 : ((ρ.set i (.v (.int b))).set j (.v (.int (a.fmod b))))[i]? = some (.v (.int b)) := by
        rw [List.getElem?_set_ne (Ne.symm hij), List.getElem?_set_self hi]
      have e2 : ((ρ.set i (.v (.int b))).set j (.v (.int (a.fmod b))))[j]? = some (.v (.int (a.fmod b))) := by
        rw [List.getElem?_set_self (by simpa using hj)]
      have m0 := Int.fmod_nonneg_of_pos a e
      have m1 := Int.fmod_lt_of_pos a e
      refine gcd_loop hij k n b (a.fmod b) _ e1 e2 (by omega) m0 (by omega) ?_
      rw [List.set_comm _ _ hij, List.set_set, List.set_comm _ _ (Ne.symm hij), List.set_set]
      have eg : Int.gcd b (a.fmod b) = Int.gcd a b := by
        rw [Int.fmod_eq_emod_of_nonneg _ hb, Int.emod_def, show a - b * (a / b) = a + b * -(a / b) by grind, Int.gcd_add_mul_left_right, Int.gcd_comm]
      rw [eg]
      exact h
    · have : b = 0 := by omega
      subst this
      simp only [cE, vE, bE, rE, fE, mE, bin, nilA, consA, bT, andT, orT, notT, tupE, lstE, allV, allM, okB, intR, addR, asL, asT, asD, eqR, eqD_nn, eqD_bb, eqD_ii, eqD_ss, eqD_tt, eqD_ll, eqD_bi, eqD_ib, eqD_nt, eqD_tn, eqD_it, eqD_ti, eqD_ni, eqD_in, eqDs_nn, eqDs_cc, eqDs_nc, eqDs_cn, cmpD, cmpDs, depD, depDs, isNon, isNR, chainE, tvE, andV, orV, notV, ifE, slEV, ixR, callV, lenC, isiC, tyN, pick, retEV, callP, argD, argDs, seqS, bkS, ctS, exprS, retS, retNS, ifS, evSl, setS, SK.loop, gN, gNil, gCons, gT, asgS, parS, defF, defK, raiseS, absC, divmodC, mmC, stL, itL, itT, itR1, itR2, itE, shL, itZ, itV, forS, evD, methL, appL, clrL, popL, insL, trL, extL, setixS, argS, argSs, callI, callN, hereA, nextA, negE, itS, wipeR, compE, compD, yesT, seqD, listC, tupC, numd, zipd, nxS, frSl, retSl, retSls, retOk, retOks, tryAsS, tryOnlyS, lookB, kinE, xfE, lookF, frzE, isTR, isTB, allC, blsD, gU, raiseIS, at0, at1, at2, at3, h1, h2, Int.lt_irrefl, decide_false]
      simp only [Bool.false_eq_true, if_false]
      have eg : (Int.gcd a 0 : Int) = a := by rw [Int.gcd_zero_right]; exact Int.natAbs_of_nonneg ha
      rw [eg] at h
      have : (ρ.set i (.v (.int a))).set j (.v (.int 0)) = ρ := by
        have hs : ∀ (l : Rho) (n : Nat) (s : Sl), l[n]? = some s → l.set n s = l := fun l n s h => by
          obtain ⟨hn, e⟩ := List.getElem?_eq_some_iff.mp h
          rw [← e]; exact List.set_getElem_self hn
        rw [hs _ _ _ h1, hs _ _ _ h2]
      rw [this] at h
      exact ⟨trivial, trivial, h⟩
theorem gcd_while {i j : Nat} (hij : i ≠ j) (k : SK) (a b : Int) (ρ : Rho) (h1 : ρ[i]? = some (.v (.int a))) (h2 : ρ[j]? = some (.v (.int b))) (ha : 0 ≤ a) (hb : 0 ≤ b)
    (h : k.nx ((ρ.set i (.v (.int (Int.gcd a b)))).set j (.v (.int 0)))) : whileS (gcdT i j) (gcdB i j) ρ k := ⟨b.toNat + 1, gcd_loop hij k _ a b ρ h1 h2 ha hb (by omega) h⟩
end VS
set_option Elab.async false
set_option linter.all false
set_option maxRecDepth 100000
set_option maxHeartbeats 4000000
/-! VM2: what the defs of fractions promise, and that they do it. Own work. -/
namespace VS
open PySem PySem.Spec PyProof.Rows
/-- a fraction -/
abbrev frD (q : Rat) : D := .tup [.int q.num, .int (q.den : Int)]
def isI : D → Option Bool
  | .int _ => some true
  | .bl _ => some false
  | .str _ => some false
  | .non => some false
  | .tup _ => some false
  | .lst _ _ => some false
  | .dct _ _ => some false
  | _ => none
def F_is_whole : FS := fun ss K _ => match ss with
  | [.v d] => (match isI d with
    | some b => K (.v (.bl b)) []
    | none => False)
  | _ => False
def F_size_of : FS := fun ss K _ => match ss with
  | [.v (.int a)] => K (.v (.int a.natAbs)) []
  | _ => False
def F_divisor : FS := fun ss K _ => match ss with
  | [.v (.int a), .v (.int b)] => (0 ≤ a ∧ 0 ≤ b) ∧ K (.v (.int (Int.gcd a b))) []
  | _ => False
abbrev noNumber : Exc := ⟨"NoNumber", [], []⟩
def F_fraction : FS := fun ss K E => match ss with
  | [.v (.int a), .v (.int b)] => if b = 0 then E noNumber [] else Si 8100 b ∧ K (.v (frD ((a : Rat) / (b : Rat)))) []
  | [.v x, .v y] => (isI x ≠ none ∧ isI y ≠ none) ∧ E noNumber []
  | _ => False
/-- an operation on two fractions -/
def F_two (f : Rat → Rat → Rat) : FS := fun ss K _ => match ss with
  | [.v (.tup [.int a, .int b]), .v (.tup [.int c, .int d])] => (b ≠ 0 ∧ d ≠ 0 ∧ Si 4000 a ∧ Si 4000 b ∧ Si 4000 c ∧ Si 4000 d) ∧ K (.v (frD (f ((a : Rat) / (b : Rat)) ((c : Rat) / (d : Rat))))) []
  | _ => False
def F_plus : FS := F_two fun p q => p + q
def F_minus : FS := F_two fun p q => p - q
def F_times : FS := F_two fun p q => p * q
def F_over : FS := fun ss K E => match ss with
  | [.v (.tup [.int a, .int b]), .v (.tup [.int c, .int d])] => (b ≠ 0 ∧ d ≠ 0 ∧ Si 4000 a ∧ Si 4000 b ∧ Si 4000 c ∧ Si 4000 d) ∧ if c = 0 then E noNumber [] else K (.v (frD (((a : Rat) / (b : Rat)) / ((c : Rat) / (d : Rat))))) []
  | _ => False
/-- less; both bottoms above 0 -/
def F_under : FS := fun ss K _ => match ss with
  | [.v (.tup [.int a, .int b]), .v (.tup [.int c, .int d])] => (0 < b ∧ 0 < d ∧ Si 4000 a ∧ Si 4000 b ∧ Si 4000 c ∧ Si 4000 d) ∧ K (.v (.bl (decide ((a : Rat) / (b : Rat) < (c : Rat) / (d : Rat))))) []
  | _ => False
def sf_is_whole : SS := (retS (andV (callV (isiC kb) (consA true (vE 0) (consA true (cE (.ty "int")) nilA))) (notV (callV (isiC kb) (consA true (vE 0) (consA true (cE (.ty "bool")) nilA))))))
def sf_size_of : SS := (seqS (ifS (bT (bin true (vE 0) (cE (.int 0)) ltR)) (retS (bin true (cE (.int 0)) (vE 0) (intR (fun _ _ => True) fun i j => .int (i - j)))) nxS)
  (retS (vE 0)))
def sf_divisor : SS := (seqS (whileS (bT (bin true (vE 1) (cE (.int 0)) gtR)) (parS 0 1 (consA true (vE 1) (consA true (bin true (vE 0) (vE 1) (intR (fun _ j => j ≠ 0) fun i j => .int (i.fmod j))) nilA))))
  (retS (vE 0)))
def sf_fraction : SS := (seqS (ifS (orT (notT (bT (callP F_is_whole [] (consA true (vE 0) nilA)))) (orT (notT (bT (callP F_is_whole [] (consA true (vE 1) nilA)))) (bT (bin true (vE 1) (cE (.int 0)) (eqR false))))) (raiseS "NoNumber") nxS)
  (seqS (setS 2 true (callP F_divisor [] (consA true (callP F_size_of [] (consA true (vE 0) nilA)) (consA true (callP F_size_of [] (consA true (vE 1) nilA)) nilA))))
  (seqS (ifS (bT (bin true (vE 1) (cE (.int 0)) ltR)) (setS 2 true (bin true (cE (.int 0)) (vE 2) (intR (fun _ _ => True) fun i j => .int (i - j)))) nxS)
  (retS (tupE (consA true (bin true (vE 0) (vE 2) (intR DivOk fun i j => .int (i.fdiv j))) (consA true (bin true (vE 1) (vE 2) (intR DivOk fun i j => .int (i.fdiv j))) nilA)))))))
def sf_plus : SS := (retS (callP F_fraction [] (consA true (bin true (bin true (bin true (vE 0) (cE (.int 0)) ixR) (bin true (vE 1) (cE (.int 1)) ixR) (intR MulOk fun i j => .int (i * j))) (bin true (bin true (vE 1) (cE (.int 0)) ixR) (bin true (vE 0) (cE (.int 1)) ixR) (intR MulOk fun i j => .int (i * j))) addR) (consA true (bin true (bin true (vE 0) (cE (.int 1)) ixR) (bin true (vE 1) (cE (.int 1)) ixR) (intR MulOk fun i j => .int (i * j))) nilA))))
def sf_minus : SS := (retS (callP F_fraction [] (consA true (bin true (bin true (bin true (vE 0) (cE (.int 0)) ixR) (bin true (vE 1) (cE (.int 1)) ixR) (intR MulOk fun i j => .int (i * j))) (bin true (bin true (vE 1) (cE (.int 0)) ixR) (bin true (vE 0) (cE (.int 1)) ixR) (intR MulOk fun i j => .int (i * j))) (intR (fun _ _ => True) fun i j => .int (i - j))) (consA true (bin true (bin true (vE 0) (cE (.int 1)) ixR) (bin true (vE 1) (cE (.int 1)) ixR) (intR MulOk fun i j => .int (i * j))) nilA))))
def sf_times : SS := (retS (callP F_fraction [] (consA true (bin true (bin true (vE 0) (cE (.int 0)) ixR) (bin true (vE 1) (cE (.int 0)) ixR) (intR MulOk fun i j => .int (i * j))) (consA true (bin true (bin true (vE 0) (cE (.int 1)) ixR) (bin true (vE 1) (cE (.int 1)) ixR) (intR MulOk fun i j => .int (i * j))) nilA))))
def sf_over : SS := (retS (callP F_fraction [] (consA true (bin true (bin true (vE 0) (cE (.int 0)) ixR) (bin true (vE 1) (cE (.int 1)) ixR) (intR MulOk fun i j => .int (i * j))) (consA true (bin true (bin true (vE 0) (cE (.int 1)) ixR) (bin true (vE 1) (cE (.int 0)) ixR) (intR MulOk fun i j => .int (i * j))) nilA))))
def sf_under : SS := (retS (bin true (bin true (bin true (vE 0) (cE (.int 0)) ixR) (bin true (vE 1) (cE (.int 1)) ixR) (intR MulOk fun i j => .int (i * j))) (bin true (bin true (vE 1) (cE (.int 0)) ixR) (bin true (vE 0) (cE (.int 1)) ixR) (intR MulOk fun i j => .int (i * j))) ltR))
theorem m_is_whole : MonoF F_is_whole := fun ss K K' E E' hk he h => by
  unfold F_is_whole at h ⊢
  grind
theorem m_size_of : MonoF F_size_of := fun ss K K' E E' hk he h => by
  unfold F_size_of at h ⊢
  grind
theorem m_divisor : MonoF F_divisor := fun ss K K' E E' hk he h => by
  unfold F_divisor at h ⊢
  grind
theorem m_fraction : MonoF F_fraction := fun ss K K' E E' hk he h => by
  unfold F_fraction at h ⊢
  grind
theorem m_two {f} : MonoF (F_two f) := fun ss K K' E E' hk he h => by
  unfold F_two at h ⊢
  grind
theorem m_plus : MonoF F_plus := m_two
theorem m_minus : MonoF F_minus := m_two
theorem m_times : MonoF F_times := m_two
theorem m_over : MonoF F_over := fun ss K K' E E' hk he h => by
  unfold F_over at h ⊢
  grind
theorem m_under : MonoF F_under := fun ss K K' E E' hk he h => by
  unfold F_under at h ⊢
  grind
theorem to_is_whole : ∀ ss K E, F_is_whole ss K E → defF [false] 1 sf_is_whole ss K E := fun ss K E h => by
  unfold F_is_whole at h
  split at h
  · rename_i d
    cases d <;> simp only [isI] at h <;> first | exact h.elim | (simp [sf_is_whole, cE, vE, bE, rE, fE, mE, bin, nilA, consA, bT, andT, orT, notT, tupE, lstE, allV, allM, okB, intR, addR, asL, asT, asD, eqR, eqD_nn, eqD_bb, eqD_ii, eqD_ss, eqD_tt, eqD_ll, eqD_bi, eqD_ib, eqD_nt, eqD_tn, eqD_it, eqD_ti, eqD_ni, eqD_in, eqDs_nn, eqDs_cc, eqDs_nc, eqDs_cn, cmpD, cmpDs, depD, depDs, isNon, isNR, chainE, tvE, andV, orV, notV, ifE, slEV, ixR, callV, lenC, isiC, tyN, pick, retEV, callP, argD, argDs, seqS, bkS, ctS, exprS, retS, retNS, ifS, evSl, setS, SK.loop, gN, gNil, gCons, gT, asgS, parS, defF, defK, raiseS, absC, divmodC, mmC, stL, itL, itT, itR1, itR2, itE, shL, itZ, itV, forS, evD, methL, appL, clrL, popL, insL, trL, extL, setixS, argS, argSs, callI, callN, hereA, nextA, negE, itS, wipeR, compE, compD, yesT, seqD, listC, tupC, numd, zipd, nxS, frSl, retSl, retSls, retOk, retOks, tryAsS, tryOnlyS, lookB, kinE, xfE, lookF, frzE, isTR, isTB, allC, blsD, gU, raiseIS, at0, at1, at2, at3, kb]; first | exact h | done)
  · exact h.elim
theorem to_size_of : ∀ ss K E, F_size_of ss K E → defF [false] 1 sf_size_of ss K E := fun ss K E h => by
  unfold F_size_of at h
  split at h
  · rename_i a
    simp [sf_size_of, cE, vE, bE, rE, fE, mE, bin, nilA, consA, bT, andT, orT, notT, tupE, lstE, allV, allM, okB, intR, addR, asL, asT, asD, eqR, eqD_nn, eqD_bb, eqD_ii, eqD_ss, eqD_tt, eqD_ll, eqD_bi, eqD_ib, eqD_nt, eqD_tn, eqD_it, eqD_ti, eqD_ni, eqD_in, eqDs_nn, eqDs_cc, eqDs_nc, eqDs_cn, cmpD, cmpDs, depD, depDs, isNon, isNR, chainE, tvE, andV, orV, notV, ifE, slEV, ixR, callV, lenC, isiC, tyN, pick, retEV, callP, argD, argDs, seqS, bkS, ctS, exprS, retS, retNS, ifS, evSl, setS, SK.loop, gN, gNil, gCons, gT, asgS, parS, defF, defK, raiseS, absC, divmodC, mmC, stL, itL, itT, itR1, itR2, itE, shL, itZ, itV, forS, evD, methL, appL, clrL, popL, insL, trL, extL, setixS, argS, argSs, callI, callN, hereA, nextA, negE, itS, wipeR, compE, compD, yesT, seqD, listC, tupC, numd, zipd, nxS, frSl, retSl, retSls, retOk, retOks, tryAsS, tryOnlyS, lookB, kinE, xfE, lookF, frzE, isTR, isTB, allC, blsD, gU, raiseIS, at0, at1, at2, at3]
    split
    · rwa [Int.ofNat_natAbs_of_nonpos (by omega)] at h
    · rwa [Int.natAbs_of_nonneg (by omega)] at h
  · exact h.elim
theorem to_divisor : ∀ ss K E, F_divisor ss K E → defF [false, false] 2 sf_divisor ss K E := fun ss K E h => by
  unfold F_divisor at h
  split at h
  · rename_i a b
    refine ⟨rfl, ?_⟩
    unfold sf_divisor seqS
    refine gcd_while (i := 0) (j := 1) (by decide) _ a b _ rfl rfl h.1.1 h.1.2 ?_
    simp [cE, vE, bE, rE, fE, mE, bin, nilA, consA, bT, andT, orT, notT, tupE, lstE, allV, allM, okB, intR, addR, asL, asT, asD, eqR, eqD_nn, eqD_bb, eqD_ii, eqD_ss, eqD_tt, eqD_ll, eqD_bi, eqD_ib, eqD_nt, eqD_tn, eqD_it, eqD_ti, eqD_ni, eqD_in, eqDs_nn, eqDs_cc, eqDs_nc, eqDs_cn, cmpD, cmpDs, depD, depDs, isNon, isNR, chainE, tvE, andV, orV, notV, ifE, slEV, ixR, callV, lenC, isiC, tyN, pick, retEV, callP, argD, argDs, seqS, bkS, ctS, exprS, retS, retNS, ifS, evSl, setS, SK.loop, gN, gNil, gCons, gT, asgS, parS, defF, defK, raiseS, absC, divmodC, mmC, stL, itL, itT, itR1, itR2, itE, shL, itZ, itV, forS, evD, methL, appL, clrL, popL, insL, trL, extL, setixS, argS, argSs, callI, callN, hereA, nextA, negE, itS, wipeR, compE, compD, yesT, seqD, listC, tupC, numd, zipd, nxS, frSl, retSl, retSls, retOk, retOks, tryAsS, tryOnlyS, lookB, kinE, xfE, lookF, frzE, isTR, isTB, allC, blsD, gU, raiseIS, at0, at1, at2, at3]
    exact h.2
  · exact h.elim
theorem divOk_of {a g : Int} {n : Nat} (h : Si n g) (hn : n ≤ 8999) (h0 : g ≠ 0) : DivOk a g := ⟨h0, Nat.lt_of_lt_of_le (h.log (m := 8999) hn (by decide)) (by decide)⟩
theorem gcd_si {a b : Int} {n : Nat} (h : Si n b) (hb : b ≠ 0) : Si n (Int.gcd a b : Int) := by
  refine h.of_le ?_
  have h1 : Int.gcd a b ∣ b.natAbs := Int.gcd_dvd_natAbs_right ..
  have := Nat.le_of_dvd (by omega) h1
  simpa using this
theorem gcd_pos {a b : Int} (hb : b ≠ 0) : (0 : Int) < (Int.gcd a b : Int) := by
  have := Int.gcd_pos_iff (a := a) (b := b); omega
theorem gcd_nat {a b : Int} : Nat.gcd a.natAbs b.natAbs = Int.gcd a b := rfl
theorem isI_true {x : D} (h : isI x = some true) : ∃ i, x = .int i := by cases x <;> simp [isI] at h; exact ⟨_, rfl⟩
theorem to_fraction : ∀ ss K E, F_fraction ss K E → defF [false, false] 3 sf_fraction ss K E := fun ss K E h => by
  unfold F_fraction at h
  split at h
  · rename_i a b
    simp [sf_fraction, F_is_whole, F_size_of, F_divisor, isI, gcd_nat, cE, vE, bE, rE, fE, mE, bin, nilA, consA, bT, andT, orT, notT, tupE, lstE, allV, allM, okB, intR, addR, asL, asT, asD, eqR, eqD_nn, eqD_bb, eqD_ii, eqD_ss, eqD_tt, eqD_ll, eqD_bi, eqD_ib, eqD_nt, eqD_tn, eqD_it, eqD_ti, eqD_ni, eqD_in, eqDs_nn, eqDs_cc, eqDs_nc, eqDs_cn, cmpD, cmpDs, depD, depDs, isNon, isNR, chainE, tvE, andV, orV, notV, ifE, slEV, ixR, callV, lenC, isiC, tyN, pick, retEV, callP, argD, argDs, seqS, bkS, ctS, exprS, retS, retNS, ifS, evSl, setS, SK.loop, gN, gNil, gCons, gT, asgS, parS, defF, defK, raiseS, absC, divmodC, mmC, stL, itL, itT, itR1, itR2, itE, shL, itZ, itV, forS, evD, methL, appL, clrL, popL, insL, trL, extL, setixS, argS, argSs, callI, callN, hereA, nextA, negE, itS, wipeR, compE, compD, yesT, seqD, listC, tupC, numd, zipd, nxS, frSl, retSl, retSls, retOk, retOks, tryAsS, tryOnlyS, lookB, kinE, xfE, lookF, frzE, isTR, isTB, allC, blsD, gU, raiseIS, at0, at1, at2, at3]
    by_cases hb : b = 0
    · rw [if_pos hb] at h ⊢; exact h
    · rw [if_neg hb] at h ⊢
      obtain ⟨h1, h2⟩ := h
      unfold frD at h2
      rw [frac_num hb, frac_den hb] at h2
      have g0 := gcd_pos (a := a) hb
      have gs := gcd_si (a := a) h1 hb
      split
      · rename_i hn
        rw [if_pos hn, Int.zero_sub] at h2
        exact ⟨divOk_of gs.neg (by decide) (by omega), divOk_of gs.neg (by decide) (by omega), h2⟩
      · rename_i hn
        rw [if_neg hn] at h2
        exact ⟨divOk_of gs (by decide) (by omega), divOk_of gs (by decide) (by omega), h2⟩
  · rename_i x y hxy
    obtain ⟨⟨h1, h2⟩, h⟩ := h
    cases ex : isI x with
    | none => exact absurd ex h1
    | some bx =>
      cases ey : isI y with
      | none => exact absurd ey h2
      | some by' =>
        cases bx
        · simp [sf_fraction, F_is_whole, ex, cE, vE, bE, rE, fE, mE, bin, nilA, consA, bT, andT, orT, notT, tupE, lstE, allV, allM, okB, intR, addR, asL, asT, asD, eqR, eqD_nn, eqD_bb, eqD_ii, eqD_ss, eqD_tt, eqD_ll, eqD_bi, eqD_ib, eqD_nt, eqD_tn, eqD_it, eqD_ti, eqD_ni, eqD_in, eqDs_nn, eqDs_cc, eqDs_nc, eqDs_cn, cmpD, cmpDs, depD, depDs, isNon, isNR, chainE, tvE, andV, orV, notV, ifE, slEV, ixR, callV, lenC, isiC, tyN, pick, retEV, callP, argD, argDs, seqS, bkS, ctS, exprS, retS, retNS, ifS, evSl, setS, SK.loop, gN, gNil, gCons, gT, asgS, parS, defF, defK, raiseS, absC, divmodC, mmC, stL, itL, itT, itR1, itR2, itE, shL, itZ, itV, forS, evD, methL, appL, clrL, popL, insL, trL, extL, setixS, argS, argSs, callI, callN, hereA, nextA, negE, itS, wipeR, compE, compD, yesT, seqD, listC, tupC, numd, zipd, nxS, frSl, retSl, retSls, retOk, retOks, tryAsS, tryOnlyS, lookB, kinE, xfE, lookF, frzE, isTR, isTB, allC, blsD, gU, raiseIS, at0, at1, at2, at3]
          exact h
        · obtain ⟨i, rfl⟩ := isI_true ex
          cases by'
          · simp [sf_fraction, F_is_whole, ex, ey, cE, vE, bE, rE, fE, mE, bin, nilA, consA, bT, andT, orT, notT, tupE, lstE, allV, allM, okB, intR, addR, asL, asT, asD, eqR, eqD_nn, eqD_bb, eqD_ii, eqD_ss, eqD_tt, eqD_ll, eqD_bi, eqD_ib, eqD_nt, eqD_tn, eqD_it, eqD_ti, eqD_ni, eqD_in, eqDs_nn, eqDs_cc, eqDs_nc, eqDs_cn, cmpD, cmpDs, depD, depDs, isNon, isNR, chainE, tvE, andV, orV, notV, ifE, slEV, ixR, callV, lenC, isiC, tyN, pick, retEV, callP, argD, argDs, seqS, bkS, ctS, exprS, retS, retNS, ifS, evSl, setS, SK.loop, gN, gNil, gCons, gT, asgS, parS, defF, defK, raiseS, absC, divmodC, mmC, stL, itL, itT, itR1, itR2, itE, shL, itZ, itV, forS, evD, methL, appL, clrL, popL, insL, trL, extL, setixS, argS, argSs, callI, callN, hereA, nextA, negE, itS, wipeR, compE, compD, yesT, seqD, listC, tupC, numd, zipd, nxS, frSl, retSl, retSls, retOk, retOks, tryAsS, tryOnlyS, lookB, kinE, xfE, lookF, frzE, isTR, isTB, allC, blsD, gU, raiseIS, at0, at1, at2, at3]
            exact h
          · obtain ⟨j, rfl⟩ := isI_true ey
            exact (hxy _ _ rfl rfl).elim
  · exact h.elim
theorem F_fraction_ok {a b : Int} {K E} (hb : b ≠ 0) : F_fraction [.v (.int a), .v (.int b)] K E = (Si 8100 b ∧ K (.v (frD ((a : Rat) / (b : Rat)))) []) := by
  unfold F_fraction
  simp [hb]
theorem to_two {sf : SS} {f : Rat → Rat → Rat} (h : ∀ (a b c d : Int) K E, b ≠ 0 → d ≠ 0 → Si 4000 a → Si 4000 b → Si 4000 c → Si 4000 d → K (.v (frD (f ((a : Rat) / (b : Rat)) ((c : Rat) / (d : Rat))))) [] → defF [false, false] 2 sf [.v (.tup [.int a, .int b]), .v (.tup [.int c, .int d])] K E) :
    ∀ ss K E, F_two f ss K E → defF [false, false] 2 sf ss K E := fun ss K E q => by
  unfold F_two at q
  split at q
  · obtain ⟨⟨h1, h2, h3, h4, h5, h6⟩, q⟩ := q
    exact h _ _ _ _ K E h1 h2 h3 h4 h5 h6 q
  · exact q.elim
theorem cne {b : Int} (h : b ≠ 0) : (b : Rat) ≠ 0 := by simpa using h
theorem plus_f {a b c d : Int} (hb : b ≠ 0) (hd : d ≠ 0) : ((a : Rat) * d + c * b) / (b * d) = (a : Rat) / b + (c : Rat) / d := by
  have := cne hb; have := cne hd
  grind
theorem minus_f {a b c d : Int} (hb : b ≠ 0) (hd : d ≠ 0) : ((a : Rat) * d - c * b) / (b * d) = (a : Rat) / b - (c : Rat) / d := by
  have := cne hb; have := cne hd
  grind
theorem times_f {a b c d : Int} (hb : b ≠ 0) (hd : d ≠ 0) : ((a : Rat) * c) / (b * d) = (a : Rat) / b * ((c : Rat) / d) := by
  have := cne hb; have := cne hd
  grind
theorem over_f {a b c d : Int} (hb : b ≠ 0) (hd : d ≠ 0) (hc : c ≠ 0) : ((a : Rat) * d) / (b * c) = (a : Rat) / b / ((c : Rat) / d) := by
  have := cne hb; have := cne hd; have := cne hc
  grind
theorem under_f {a b c d : Int} (hb : 0 < b) (hd : 0 < d) : ((a : Rat) / b < (c : Rat) / d) = (a * d < c * b) := by
  have hb' : (0 : Rat) < b := by exact_mod_cast hb
  have hd' : (0 : Rat) < d := by exact_mod_cast hd
  rw [Rat.div_lt_iff hb', show (c : Rat) / d * b = c * b / d by grind, Rat.lt_div_iff hd', ← Rat.intCast_mul, ← Rat.intCast_mul, Rat.intCast_lt_intCast]
theorem to_plus : ∀ ss K E, F_plus ss K E → defF [false, false] 2 sf_plus ss K E := to_two fun a b c d K E hb hd sa sb sc sd h => by
  simp [sf_plus, cE, vE, bE, rE, fE, mE, bin, nilA, consA, bT, andT, orT, notT, tupE, lstE, allV, allM, okB, intR, addR, asL, asT, asD, eqR, eqD_nn, eqD_bb, eqD_ii, eqD_ss, eqD_tt, eqD_ll, eqD_bi, eqD_ib, eqD_nt, eqD_tn, eqD_it, eqD_ti, eqD_ni, eqD_in, eqDs_nn, eqDs_cc, eqDs_nc, eqDs_cn, cmpD, cmpDs, depD, depDs, isNon, isNR, chainE, tvE, andV, orV, notV, ifE, slEV, ixR, callV, lenC, isiC, tyN, pick, retEV, callP, argD, argDs, seqS, bkS, ctS, exprS, retS, retNS, ifS, evSl, setS, SK.loop, gN, gNil, gCons, gT, asgS, parS, defF, defK, raiseS, absC, divmodC, mmC, stL, itL, itT, itR1, itR2, itE, shL, itZ, itV, forS, evD, methL, appL, clrL, popL, insL, trL, extL, setixS, argS, argSs, callI, callN, hereA, nextA, negE, itS, wipeR, compE, compD, yesT, seqD, listC, tupC, numd, zipd, nxS, frSl, retSl, retSls, retOk, retOks, tryAsS, tryOnlyS, lookB, kinE, xfE, lookF, frzE, isTR, isTB, allC, blsD, gU, raiseIS, at0, at1, at2, at3, F_fraction_ok (Int.mul_ne_zero hb hd)]
  rw [plus_f hb hd]
  exact ⟨.of sa sd (by decide), .of sc sb (by decide), .of sb sd (by decide), (sb.mul sd).mono (by decide), h⟩
theorem to_minus : ∀ ss K E, F_minus ss K E → defF [false, false] 2 sf_minus ss K E := to_two fun a b c d K E hb hd sa sb sc sd h => by
  simp [sf_minus, cE, vE, bE, rE, fE, mE, bin, nilA, consA, bT, andT, orT, notT, tupE, lstE, allV, allM, okB, intR, addR, asL, asT, asD, eqR, eqD_nn, eqD_bb, eqD_ii, eqD_ss, eqD_tt, eqD_ll, eqD_bi, eqD_ib, eqD_nt, eqD_tn, eqD_it, eqD_ti, eqD_ni, eqD_in, eqDs_nn, eqDs_cc, eqDs_nc, eqDs_cn, cmpD, cmpDs, depD, depDs, isNon, isNR, chainE, tvE, andV, orV, notV, ifE, slEV, ixR, callV, lenC, isiC, tyN, pick, retEV, callP, argD, argDs, seqS, bkS, ctS, exprS, retS, retNS, ifS, evSl, setS, SK.loop, gN, gNil, gCons, gT, asgS, parS, defF, defK, raiseS, absC, divmodC, mmC, stL, itL, itT, itR1, itR2, itE, shL, itZ, itV, forS, evD, methL, appL, clrL, popL, insL, trL, extL, setixS, argS, argSs, callI, callN, hereA, nextA, negE, itS, wipeR, compE, compD, yesT, seqD, listC, tupC, numd, zipd, nxS, frSl, retSl, retSls, retOk, retOks, tryAsS, tryOnlyS, lookB, kinE, xfE, lookF, frzE, isTR, isTB, allC, blsD, gU, raiseIS, at0, at1, at2, at3, F_fraction_ok (Int.mul_ne_zero hb hd)]
  rw [minus_f hb hd]
  exact ⟨.of sa sd (by decide), .of sc sb (by decide), .of sb sd (by decide), (sb.mul sd).mono (by decide), h⟩
theorem to_times : ∀ ss K E, F_times ss K E → defF [false, false] 2 sf_times ss K E := to_two fun a b c d K E hb hd sa sb sc sd h => by
  simp [sf_times, cE, vE, bE, rE, fE, mE, bin, nilA, consA, bT, andT, orT, notT, tupE, lstE, allV, allM, okB, intR, addR, asL, asT, asD, eqR, eqD_nn, eqD_bb, eqD_ii, eqD_ss, eqD_tt, eqD_ll, eqD_bi, eqD_ib, eqD_nt, eqD_tn, eqD_it, eqD_ti, eqD_ni, eqD_in, eqDs_nn, eqDs_cc, eqDs_nc, eqDs_cn, cmpD, cmpDs, depD, depDs, isNon, isNR, chainE, tvE, andV, orV, notV, ifE, slEV, ixR, callV, lenC, isiC, tyN, pick, retEV, callP, argD, argDs, seqS, bkS, ctS, exprS, retS, retNS, ifS, evSl, setS, SK.loop, gN, gNil, gCons, gT, asgS, parS, defF, defK, raiseS, absC, divmodC, mmC, stL, itL, itT, itR1, itR2, itE, shL, itZ, itV, forS, evD, methL, appL, clrL, popL, insL, trL, extL, setixS, argS, argSs, callI, callN, hereA, nextA, negE, itS, wipeR, compE, compD, yesT, seqD, listC, tupC, numd, zipd, nxS, frSl, retSl, retSls, retOk, retOks, tryAsS, tryOnlyS, lookB, kinE, xfE, lookF, frzE, isTR, isTB, allC, blsD, gU, raiseIS, at0, at1, at2, at3, F_fraction_ok (Int.mul_ne_zero hb hd)]
  rw [times_f hb hd]
  exact ⟨.of sa sc (by decide), .of sb sd (by decide), (sb.mul sd).mono (by decide), h⟩
theorem to_over : ∀ ss K E, F_over ss K E → defF [false, false] 2 sf_over ss K E := fun ss K E q => by
  unfold F_over at q
  split at q
  · rename_i a b c d
    obtain ⟨⟨hb, hd, sa, sb, sc, sd⟩, h⟩ := q
    by_cases hc : c = 0
    · rw [if_pos hc] at h
      subst hc
      simp [sf_over, cE, vE, bE, rE, fE, mE, bin, nilA, consA, bT, andT, orT, notT, tupE, lstE, allV, allM, okB, intR, addR, asL, asT, asD, eqR, eqD_nn, eqD_bb, eqD_ii, eqD_ss, eqD_tt, eqD_ll, eqD_bi, eqD_ib, eqD_nt, eqD_tn, eqD_it, eqD_ti, eqD_ni, eqD_in, eqDs_nn, eqDs_cc, eqDs_nc, eqDs_cn, cmpD, cmpDs, depD, depDs, isNon, isNR, chainE, tvE, andV, orV, notV, ifE, slEV, ixR, callV, lenC, isiC, tyN, pick, retEV, callP, argD, argDs, seqS, bkS, ctS, exprS, retS, retNS, ifS, evSl, setS, SK.loop, gN, gNil, gCons, gT, asgS, parS, defF, defK, raiseS, absC, divmodC, mmC, stL, itL, itT, itR1, itR2, itE, shL, itZ, itV, forS, evD, methL, appL, clrL, popL, insL, trL, extL, setixS, argS, argSs, callI, callN, hereA, nextA, negE, itS, wipeR, compE, compD, yesT, seqD, listC, tupC, numd, zipd, nxS, frSl, retSl, retSls, retOk, retOks, tryAsS, tryOnlyS, lookB, kinE, xfE, lookF, frzE, isTR, isTB, allC, blsD, gU, raiseIS, at0, at1, at2, at3, F_fraction]
      exact ⟨.of sa sd (by decide), .of sb sc (by decide), h⟩
    · rw [if_neg hc] at h
      simp [sf_over, cE, vE, bE, rE, fE, mE, bin, nilA, consA, bT, andT, orT, notT, tupE, lstE, allV, allM, okB, intR, addR, asL, asT, asD, eqR, eqD_nn, eqD_bb, eqD_ii, eqD_ss, eqD_tt, eqD_ll, eqD_bi, eqD_ib, eqD_nt, eqD_tn, eqD_it, eqD_ti, eqD_ni, eqD_in, eqDs_nn, eqDs_cc, eqDs_nc, eqDs_cn, cmpD, cmpDs, depD, depDs, isNon, isNR, chainE, tvE, andV, orV, notV, ifE, slEV, ixR, callV, lenC, isiC, tyN, pick, retEV, callP, argD, argDs, seqS, bkS, ctS, exprS, retS, retNS, ifS, evSl, setS, SK.loop, gN, gNil, gCons, gT, asgS, parS, defF, defK, raiseS, absC, divmodC, mmC, stL, itL, itT, itR1, itR2, itE, shL, itZ, itV, forS, evD, methL, appL, clrL, popL, insL, trL, extL, setixS, argS, argSs, callI, callN, hereA, nextA, negE, itS, wipeR, compE, compD, yesT, seqD, listC, tupC, numd, zipd, nxS, frSl, retSl, retSls, retOk, retOks, tryAsS, tryOnlyS, lookB, kinE, xfE, lookF, frzE, isTR, isTB, allC, blsD, gU, raiseIS, at0, at1, at2, at3, F_fraction_ok (Int.mul_ne_zero hb hc)]
      rw [over_f hb hd hc]
      exact ⟨.of sa sd (by decide), .of sb sc (by decide), (sb.mul sc).mono (by decide), h⟩
  · exact q.elim
theorem to_under : ∀ ss K E, F_under ss K E → defF [false, false] 2 sf_under ss K E := fun ss K E q => by
  unfold F_under at q
  split at q
  · rename_i a b c d
    obtain ⟨⟨hb, hd, sa, sb, sc, sd⟩, h⟩ := q
    simp [sf_under, cE, vE, bE, rE, fE, mE, bin, nilA, consA, bT, andT, orT, notT, tupE, lstE, allV, allM, okB, intR, addR, asL, asT, asD, eqR, eqD_nn, eqD_bb, eqD_ii, eqD_ss, eqD_tt, eqD_ll, eqD_bi, eqD_ib, eqD_nt, eqD_tn, eqD_it, eqD_ti, eqD_ni, eqD_in, eqDs_nn, eqDs_cc, eqDs_nc, eqDs_cn, cmpD, cmpDs, depD, depDs, isNon, isNR, chainE, tvE, andV, orV, notV, ifE, slEV, ixR, callV, lenC, isiC, tyN, pick, retEV, callP, argD, argDs, seqS, bkS, ctS, exprS, retS, retNS, ifS, evSl, setS, SK.loop, gN, gNil, gCons, gT, asgS, parS, defF, defK, raiseS, absC, divmodC, mmC, stL, itL, itT, itR1, itR2, itE, shL, itZ, itV, forS, evD, methL, appL, clrL, popL, insL, trL, extL, setixS, argS, argSs, callI, callN, hereA, nextA, negE, itS, wipeR, compE, compD, yesT, seqD, listC, tupC, numd, zipd, nxS, frSl, retSl, retSls, retOk, retOks, tryAsS, tryOnlyS, lookB, kinE, xfE, lookF, frzE, isTR, isTB, allC, blsD, gU, raiseIS, at0, at1, at2, at3]
    simp only [under_f hb hd] at h
    exact ⟨.of sa sd (by decide), .of sc sb (by decide), h⟩
  · exact q.elim
end VS
set_option Elab.async false
set_option linter.all false
set_option maxRecDepth 100000
set_option maxHeartbeats 4000000
/-! VM3: what the laws' own common defs promise, and that they do it. Own work. -/
namespace VS
open PySem PySem.Spec PyProof.Rows
theorem loop_go {g : GS} {f : SS} (k : SK) (ds0 : List D) (I : Nat → Rho → Prop) (step : ∀ (i : Nat) (d : D) (ρ : Rho) (K' : Rho → Prop), ds0[i]? = some d → I i ρ → (∀ ρ', I (i + 1) ρ' → K' ρ') → g (.v d) ρ (fun ρ1 => f ρ1 (k.loop K')))
    (done : ∀ ρ, I ds0.length ρ → k.nx ρ) : ∀ (ds : List D) (i : Nat) (ρ : Rho), ds0.drop i = ds → i ≤ ds0.length → I i ρ → loopS g f ds ρ k
  | [], i, ρ, e, hi, h => by
    have : i = ds0.length := by
      have := congrArg List.length e
      simp at this; omega
    subst this
    exact done ρ h
  | d :: ds, i, ρ, e, hi, h => by
    have hl : i < ds0.length := by
      have := congrArg List.length e
      simp at this; omega
    have e1 : ds0[i]? = some d := by
      have := congrArg (fun l => l[0]?) e
      simpa using this
    have e2 : ds0.drop (i + 1) = ds := by
      have := congrArg List.tail e
      simpa using this
    exact step i d ρ _ e1 h fun ρ' h' => loop_go k ds0 I step done ds (i + 1) ρ' e2 (by omega) h'
/-- a loop by its invariant -/
theorem loop_inv {g : GS} {f : SS} {k : SK} {ds : List D} {ρ : Rho} (I : Nat → Rho → Prop) (h0 : I 0 ρ) (step : ∀ (i : Nat) (d : D) (ρ : Rho) (K' : Rho → Prop), ds[i]? = some d → I i ρ → (∀ ρ', I (i + 1) ρ' → K' ρ') → g (.v d) ρ (fun ρ1 => f ρ1 (k.loop K')))
    (done : ∀ ρ, I ds.length ρ → k.nx ρ) : loopS g f ds ρ k := loop_go k ds I step done ds 0 ρ rfl (Nat.zero_le _) h0
theorem rngD_get {lo : Int} {n i : Nat} {d : D} (h : (rngD lo n)[i]? = some d) : i < n ∧ d = .int (lo + (i : Nat)) := by
  unfold rngD at h
  rw [List.getElem?_map] at h
  by_cases hi : i < n
  · rw [List.getElem?_range hi] at h
    exact ⟨hi, (Option.some.inj h).symm⟩
  · rw [List.getElem?_eq_none (by simpa using hi)] at h
    cases h
theorem rngD_len {lo : Int} {n : Nat} : (rngD lo n).length = n := by unfold rngD; simp
theorem Si.lit {n : Nat} {a : Int} (h : a.natAbs < 2 ^ n := by decide) : Si n a := h
/-! ### cells, boxes -/
abbrev bigB : Nat := 1100000
/-- the script -/
def isScript (ds : List D) : Prop := ∃ ns : List Int, ds = ns.map .int ∧ ns.length ≤ 63 ∧ ∀ n ∈ ns, Si bigB n
def F__law_cell : FS := fun ss K _ => match ss with
  | [.v (.lst _ ds), .v (.int k)] => (isScript ds ∧ 0 ≤ k ∧ k < 2 ^ 40) ∧ ∀ n, Si bigB n → K (.v (.int n)) []
  | _ => False
def F__law_mix : FS := fun ss K _ => match ss with
  | [.v (.int c), .v (.int k)] => (Si bigB c ∧ 0 ≤ k ∧ k < 2 ^ 40) ∧ ∀ n, 0 ≤ n → n < 2147483563 → K (.v (.int n)) []
  | _ => False
def F__law_box : FS := fun ss K _ => match ss with
  | [.v (.lst _ ds), .v (.int k)] => (isScript ds ∧ 0 ≤ k ∧ k < 2 ^ 40) ∧ ∀ n, K (.m (.l [.int n])) []
  | _ => False
def F__law_take : FS := fun ss K _ => match ss with
  | [.l [.int n], .v (.int m)] => (0 < m ∧ Si 8000 m) ∧ ∀ d n', 0 ≤ d → d < m → K (.v (.int d)) [.l [.int n']]
  | _ => False
def F__law_fit : FS := fun ss K E => match ss with
  | [.v (.int a), .v (.int b)] => (b ≠ 0 ∧ Si 8100 b) ∧ K (.v (frD ((a : Rat) / (b : Rat)))) []
  | _ => False
def F__law_plus : FS := F_plus
def F__law_minus : FS := F_minus
def F__law_times : FS := F_times
def F__law_over : FS := fun ss K E => match ss with
  | [.v (.tup [.int a, .int b]), .v (.tup [.int c, .int d])] => (b ≠ 0 ∧ d ≠ 0 ∧ c ≠ 0 ∧ Si 4000 a ∧ Si 4000 b ∧ Si 4000 c ∧ Si 4000 d) ∧ K (.v (frD (((a : Rat) / (b : Rat)) / ((c : Rat) / (d : Rat))))) []
  | _ => False
def sf__law_cell : SS := (seqS (ifS (bT (bin true (vE 1) (callV lenC (consA true (vE 0) nilA)) ltR)) (retS (bin true (vE 0) (vE 1) ixR)) nxS)
  (retS (bin true (bin true (cE (.int 6151)) (vE 1) (intR MulOk fun i j => .int (i * j))) (cE (.int 29)) addR)))
def sf__law_mix : SS := (seqS (setS 2 true (bin true (bin true (bin true (vE 0) (cE (.int 1)) addR) (cE (.int 40692)) (intR MulOk fun i j => .int (i * j))) (bin true (cE (.int 104729)) (vE 1) (intR MulOk fun i j => .int (i * j))) addR))
  (seqS (setS 2 true (bin true (bin true (bin true (vE 2) (vE 2) (intR MulOk fun i j => .int (i * j))) (cE (.int 2147483399)) (intR (fun _ j => j ≠ 0) fun i j => .int (i.fmod j))) (vE 1) addR))
  (retS (bin true (bin true (vE 2) (bin true (vE 2) (cE (.int 31)) addR) (intR MulOk fun i j => .int (i * j))) (cE (.int 2147483563)) (intR (fun _ j => j ≠ 0) fun i j => .int (i.fmod j))))))
def sf__law_box : SS := (seqS (setS 2 true (callP F__law_cell [] (consA true (vE 0) (consA true (vE 1) nilA))))
  (seqS (ifS (bT (bin true (bin true (vE 2) (cE (.int 2)) (intR (fun _ j => j ≠ 0) fun i j => .int (i.fmod j))) (cE (.int 0)) (eqR false))) (retS (lstE (consA true (bin true (vE 2) (cE (.int 2)) (intR DivOk fun i j => .int (i.fdiv j))) nilA))) nxS)
  (seqS (setS 3 true (cE (.int 0)))
  (seqS (forS (itR1 (consA true (cE (.int 16)) nilA)) (gN 4 true) (setS 3 true (bin true (bin true (vE 3) (cE (.int 2147483647)) (intR MulOk fun i j => .int (i * j))) (callP F__law_mix [] (consA true (vE 2) (consA true (vE 4) nilA))) addR)))
  (retS (lstE (consA true (vE 3) nilA)))))))
def sf__law_take : SS := (seqS (asgS (gT 2 (gCons (gN 2 true) (gCons (gN 3 true) gNil))) (callV divmodC (consA true (bin true (rE 0) (cE (.int 0)) ixR) (consA true (vE 1) nilA))))
  (seqS (setixS true 0 (vE 2) (cE (.int 0)))
  (retS (vE 3))))
def sf__law_fit : SS := (seqS (parS 2 3 (consA true (callV absC (consA true (vE 0) nilA)) (consA true (callV absC (consA true (vE 1) nilA)) nilA)))
  (seqS (whileS (bT (bin true (vE 3) (cE (.int 0)) gtR)) (parS 2 3 (consA true (vE 3) (consA true (bin true (vE 2) (vE 3) (intR (fun _ j => j ≠ 0) fun i j => .int (i.fmod j))) nilA))))
  (seqS (ifS (bT (bin true (vE 1) (cE (.int 0)) ltR)) (setS 2 true (bin true (cE (.int 0)) (vE 2) (intR (fun _ _ => True) fun i j => .int (i - j)))) nxS)
  (retS (tupE (consA true (bin true (vE 0) (vE 2) (intR DivOk fun i j => .int (i.fdiv j))) (consA true (bin true (vE 1) (vE 2) (intR DivOk fun i j => .int (i.fdiv j))) nilA)))))))
def sf__law_plus : SS := (retS (callP F__law_fit [] (consA true (bin true (bin true (bin true (vE 0) (cE (.int 0)) ixR) (bin true (vE 1) (cE (.int 1)) ixR) (intR MulOk fun i j => .int (i * j))) (bin true (bin true (vE 1) (cE (.int 0)) ixR) (bin true (vE 0) (cE (.int 1)) ixR) (intR MulOk fun i j => .int (i * j))) addR) (consA true (bin true (bin true (vE 0) (cE (.int 1)) ixR) (bin true (vE 1) (cE (.int 1)) ixR) (intR MulOk fun i j => .int (i * j))) nilA))))
def sf__law_minus : SS := (retS (callP F__law_fit [] (consA true (bin true (bin true (bin true (vE 0) (cE (.int 0)) ixR) (bin true (vE 1) (cE (.int 1)) ixR) (intR MulOk fun i j => .int (i * j))) (bin true (bin true (vE 1) (cE (.int 0)) ixR) (bin true (vE 0) (cE (.int 1)) ixR) (intR MulOk fun i j => .int (i * j))) (intR (fun _ _ => True) fun i j => .int (i - j))) (consA true (bin true (bin true (vE 0) (cE (.int 1)) ixR) (bin true (vE 1) (cE (.int 1)) ixR) (intR MulOk fun i j => .int (i * j))) nilA))))
def sf__law_times : SS := (retS (callP F__law_fit [] (consA true (bin true (bin true (vE 0) (cE (.int 0)) ixR) (bin true (vE 1) (cE (.int 0)) ixR) (intR MulOk fun i j => .int (i * j))) (consA true (bin true (bin true (vE 0) (cE (.int 1)) ixR) (bin true (vE 1) (cE (.int 1)) ixR) (intR MulOk fun i j => .int (i * j))) nilA))))
def sf__law_over : SS := (retS (callP F__law_fit [] (consA true (bin true (bin true (vE 0) (cE (.int 0)) ixR) (bin true (vE 1) (cE (.int 1)) ixR) (intR MulOk fun i j => .int (i * j))) (consA true (bin true (bin true (vE 0) (cE (.int 1)) ixR) (bin true (vE 1) (cE (.int 0)) ixR) (intR MulOk fun i j => .int (i * j))) nilA))))
theorem m__law_cell : MonoF F__law_cell := fun ss K K' E E' hk he h => by
  unfold F__law_cell at h ⊢
  grind
theorem m__law_mix : MonoF F__law_mix := fun ss K K' E E' hk he h => by
  unfold F__law_mix at h ⊢
  grind
theorem m__law_box : MonoF F__law_box := fun ss K K' E E' hk he h => by
  unfold F__law_box at h ⊢
  grind
theorem m__law_take : MonoF F__law_take := fun ss K K' E E' hk he h => by
  unfold F__law_take at h ⊢
  grind
theorem m__law_fit : MonoF F__law_fit := fun ss K K' E E' hk he h => by
  unfold F__law_fit at h ⊢
  grind
theorem m__law_plus : MonoF F__law_plus := m_two
theorem m__law_minus : MonoF F__law_minus := m_two
theorem m__law_times : MonoF F__law_times := m_two
theorem m__law_over : MonoF F__law_over := fun ss K K' E E' hk he h => by
  unfold F__law_over at h ⊢
  grind
theorem k40 {k : Int} (h : 0 ≤ k) (h2 : k < 2 ^ 40) : Si 41 k := by unfold Si; omega
theorem to__law_cell : ∀ ss K E, F__law_cell ss K E → defF [false, false] 2 sf__law_cell ss K E := fun ss K E h => by
  unfold F__law_cell at h
  split at h
  · rename_i st ds k
    obtain ⟨⟨⟨ns, rfl, hl, hs⟩, h0, h1⟩, q⟩ := h
    simp [sf__law_cell, cE, vE, bE, rE, fE, mE, bin, nilA, consA, bT, andT, orT, notT, tupE, lstE, allV, allM, okB, intR, addR, asL, asT, asD, eqR, eqD_nn, eqD_bb, eqD_ii, eqD_ss, eqD_tt, eqD_ll, eqD_bi, eqD_ib, eqD_nt, eqD_tn, eqD_it, eqD_ti, eqD_ni, eqD_in, eqDs_nn, eqDs_cc, eqDs_nc, eqDs_cn, cmpD, cmpDs, depD, depDs, isNon, isNR, chainE, tvE, andV, orV, notV, ifE, slEV, ixR, callV, lenC, isiC, tyN, pick, retEV, callP, argD, argDs, seqS, bkS, ctS, exprS, retS, retNS, ifS, evSl, setS, SK.loop, gN, gNil, gCons, gT, asgS, parS, defF, defK, raiseS, absC, divmodC, mmC, stL, itL, itT, itR1, itR2, itE, shL, itZ, itV, forS, evD, methL, appL, clrL, popL, insL, trL, extL, setixS, argS, argSs, callI, callN, hereA, nextA, negE, itS, wipeR, compE, compD, yesT, seqD, listC, tupC, numd, zipd, nxS, frSl, retSl, retSls, retOk, retOks, tryAsS, tryOnlyS, lookB, kinE, xfE, lookF, frzE, isTR, isTB, allC, blsD, gU, raiseIS, at0, at1, at2, at3]
    split
    · rename_i hk
      have hn : k.toNat < ns.length := by omega
      have e : L2.atI (ns.map D.int) k = some (.int (ns[k.toNat])) := by
        simp [L2.atI, L2.ixN, h0, hk]
      rw [e]
      exact ⟨rfl, q _ (hs _ (List.getElem_mem hn))⟩
    · refine ⟨.of (Si.lit (n := 13)) (k40 h0 h1) (by decide), q _ ?_⟩
      exact (((Si.lit (n := 13) (a := 6151)).mul (k40 h0 h1)).add (Si.lit (n := 5) (a := 29))).mono (by decide)
  · exact h.elim
theorem to__law_mix : ∀ ss K E, F__law_mix ss K E → defF [false, false] 3 sf__law_mix ss K E := fun ss K E h => by
  unfold F__law_mix at h
  split at h
  · rename_i c k
    obtain ⟨⟨hc, h0, h1⟩, q⟩ := h
    simp [sf__law_mix, cE, vE, bE, rE, fE, mE, bin, nilA, consA, bT, andT, orT, notT, tupE, lstE, allV, allM, okB, intR, addR, asL, asT, asD, eqR, eqD_nn, eqD_bb, eqD_ii, eqD_ss, eqD_tt, eqD_ll, eqD_bi, eqD_ib, eqD_nt, eqD_tn, eqD_it, eqD_ti, eqD_ni, eqD_in, eqDs_nn, eqDs_cc, eqDs_nc, eqDs_cn, cmpD, cmpDs, depD, depDs, isNon, isNR, chainE, tvE, andV, orV, notV, ifE, slEV, ixR, callV, lenC, isiC, tyN, pick, retEV, callP, argD, argDs, seqS, bkS, ctS, exprS, retS, retNS, ifS, evSl, setS, SK.loop, gN, gNil, gCons, gT, asgS, parS, defF, defK, raiseS, absC, divmodC, mmC, stL, itL, itT, itR1, itR2, itE, shL, itZ, itV, forS, evD, methL, appL, clrL, popL, insL, trL, extL, setixS, argS, argSs, callI, callN, hereA, nextA, negE, itS, wipeR, compE, compD, yesT, seqD, listC, tupC, numd, zipd, nxS, frSl, retSl, retSls, retOk, retOks, tryAsS, tryOnlyS, lookB, kinE, xfE, lookF, frzE, isTR, isTB, allC, blsD, gU, raiseIS, at0, at1, at2, at3]
    have s1 : Si (bigB + 60) (c + 1) := (hc.add (Si.lit (n := 1) (a := 1))).mono (by decide)
    have s2 : Si (bigB + 80) ((c + 1) * 40692) := (s1.mul (Si.lit (n := 16) (a := 40692))).mono (by decide)
    have s3 : Si (bigB + 90) ((c + 1) * 40692 + 104729 * k) := (s2.add ((Si.lit (n := 17) (a := 104729)).mul (k40 h0 h1))).mono (by decide)
    have s4 : Si 50 ((((c + 1) * 40692 + 104729 * k) * ((c + 1) * 40692 + 104729 * k)).fmod 2147483399 + k) := by
      have a0 := Int.fmod_nonneg_of_pos (((c + 1) * 40692 + 104729 * k) * ((c + 1) * 40692 + 104729 * k)) (b := 2147483399) (by decide)
      have a1 := Int.fmod_lt_of_pos (((c + 1) * 40692 + 104729 * k) * ((c + 1) * 40692 + 104729 * k)) (b := 2147483399) (by decide)
      unfold Si; omega
    refine ⟨.of s1 (Si.lit (n := 16)) (by decide), .of (Si.lit (n := 17)) (k40 h0 h1) (by decide), .of s3 s3 (by decide), .of s4 (s4.add (Si.lit (n := 5))) (by decide), q _ (Int.fmod_nonneg_of_pos _ (by decide)) (Int.fmod_lt_of_pos _ (by decide))⟩
  · exact h.elim
theorem to__law_take : ∀ ss K E, F__law_take ss K E → defF [true, false] 4 sf__law_take ss K E := fun ss K E h => by
  unfold F__law_take at h
  split at h
  · rename_i n m
    obtain ⟨⟨h0, h1⟩, q⟩ := h
    simp [sf__law_take, L2.ixN, cE, vE, bE, rE, fE, mE, bin, nilA, consA, bT, andT, orT, notT, tupE, lstE, allV, allM, okB, intR, addR, asL, asT, asD, eqR, eqD_nn, eqD_bb, eqD_ii, eqD_ss, eqD_tt, eqD_ll, eqD_bi, eqD_ib, eqD_nt, eqD_tn, eqD_it, eqD_ti, eqD_ni, eqD_in, eqDs_nn, eqDs_cc, eqDs_nc, eqDs_cn, cmpD, cmpDs, depD, depDs, isNon, isNR, chainE, tvE, andV, orV, notV, ifE, slEV, ixR, callV, lenC, isiC, tyN, pick, retEV, callP, argD, argDs, seqS, bkS, ctS, exprS, retS, retNS, ifS, evSl, setS, SK.loop, gN, gNil, gCons, gT, asgS, parS, defF, defK, raiseS, absC, divmodC, mmC, stL, itL, itT, itR1, itR2, itE, shL, itZ, itV, forS, evD, methL, appL, clrL, popL, insL, trL, extL, setixS, argS, argSs, callI, callN, hereA, nextA, negE, itS, wipeR, compE, compD, yesT, seqD, listC, tupC, numd, zipd, nxS, frSl, retSl, retSls, retOk, retOks, tryAsS, tryOnlyS, lookB, kinE, xfE, lookF, frzE, isTR, isTB, allC, blsD, gU, raiseIS, at0, at1, at2, at3]
    exact ⟨divOk_of h1 (by decide) (by omega), q _ _ (Int.fmod_nonneg_of_pos _ h0) (Int.fmod_lt_of_pos _ h0)⟩
  · exact h.elim
theorem to__law_box : ∀ ss K E, F__law_box ss K E → defF [false, false] 5 sf__law_box ss K E := fun ss K E h => by
  unfold F__law_box at h
  split at h
  · rename_i st ds k
    obtain ⟨⟨hs, h0, h1⟩, q⟩ := h
    simp [sf__law_box, F__law_cell, cE, vE, bE, rE, fE, mE, bin, nilA, consA, bT, andT, orT, notT, tupE, lstE, allV, allM, okB, intR, addR, asL, asT, asD, eqR, eqD_nn, eqD_bb, eqD_ii, eqD_ss, eqD_tt, eqD_ll, eqD_bi, eqD_ib, eqD_nt, eqD_tn, eqD_it, eqD_ti, eqD_ni, eqD_in, eqDs_nn, eqDs_cc, eqDs_nc, eqDs_cn, cmpD, cmpDs, depD, depDs, isNon, isNR, chainE, tvE, andV, orV, notV, ifE, slEV, ixR, callV, lenC, isiC, tyN, pick, retEV, callP, argD, argDs, seqS, bkS, ctS, exprS, retS, retNS, ifS, evSl, setS, SK.loop, gN, gNil, gCons, gT, asgS, parS, defF, defK, raiseS, absC, divmodC, mmC, stL, itL, itT, itR1, itR2, itE, shL, itZ, itV, forS, evD, methL, appL, clrL, popL, insL, trL, extL, setixS, argS, argSs, callI, callN, hereA, nextA, negE, itS, wipeR, compE, compD, yesT, seqD, listC, tupC, numd, zipd, nxS, frSl, retSl, retSls, retOk, retOks, tryAsS, tryOnlyS, lookB, kinE, xfE, lookF, frzE, isTR, isTB, allC, blsD, gU, raiseIS, at0, at1, at2, at3]
    refine ⟨⟨hs, h0, h1⟩, fun n hn => ?_⟩
    split
    · exact ⟨divOk_of (n := 10) (Si.lit (a := 2)) (by decide) (by decide), q _⟩
    · refine loop_inv (fun i ρ => ∃ x y, Si (40 * i + 40) x ∧ ρ = [.v (.lst st ds), .v (.int k), .v (.int n), .v (.int x), y]) ⟨0, .no, Si.lit, rfl⟩ ?_ ?_
      · rintro i d ρ K' hd ⟨x, y, hx, rfl⟩ next
        obtain ⟨hi, rfl⟩ := rngD_get hd
        simp [F__law_mix, cE, vE, bE, rE, fE, mE, bin, nilA, consA, bT, andT, orT, notT, tupE, lstE, allV, allM, okB, intR, addR, asL, asT, asD, eqR, eqD_nn, eqD_bb, eqD_ii, eqD_ss, eqD_tt, eqD_ll, eqD_bi, eqD_ib, eqD_nt, eqD_tn, eqD_it, eqD_ti, eqD_ni, eqD_in, eqDs_nn, eqDs_cc, eqDs_nc, eqDs_cn, cmpD, cmpDs, depD, depDs, isNon, isNR, chainE, tvE, andV, orV, notV, ifE, slEV, ixR, callV, lenC, isiC, tyN, pick, retEV, callP, argD, argDs, seqS, bkS, ctS, exprS, retS, retNS, ifS, evSl, setS, SK.loop, gN, gNil, gCons, gT, asgS, parS, defF, defK, raiseS, absC, divmodC, mmC, stL, itL, itT, itR1, itR2, itE, shL, itZ, itV, forS, evD, methL, appL, clrL, popL, insL, trL, extL, setixS, argS, argSs, callI, callN, hereA, nextA, negE, itS, wipeR, compE, compD, yesT, seqD, listC, tupC, numd, zipd, nxS, frSl, retSl, retSls, retOk, retOks, tryAsS, tryOnlyS, lookB, kinE, xfE, lookF, frzE, isTR, isTB, allC, blsD, gU, raiseIS, at0, at1, at2, at3]
        refine ⟨.of hx (Si.lit (n := 31)) (by omega), ⟨hn, by omega⟩, fun m m0 m1 => next _ ⟨_, _, ?_, rfl⟩⟩
        refine ((hx.mul (Si.lit (n := 31) (a := 2147483647))).add (m := 31) (b := m) (by unfold Si; omega)).mono (by omega)
      · rintro ρ ⟨x, y, hx, rfl⟩
        simp [cE, vE, bE, rE, fE, mE, bin, nilA, consA, bT, andT, orT, notT, tupE, lstE, allV, allM, okB, intR, addR, asL, asT, asD, eqR, eqD_nn, eqD_bb, eqD_ii, eqD_ss, eqD_tt, eqD_ll, eqD_bi, eqD_ib, eqD_nt, eqD_tn, eqD_it, eqD_ti, eqD_ni, eqD_in, eqDs_nn, eqDs_cc, eqDs_nc, eqDs_cn, cmpD, cmpDs, depD, depDs, isNon, isNR, chainE, tvE, andV, orV, notV, ifE, slEV, ixR, callV, lenC, isiC, tyN, pick, retEV, callP, argD, argDs, seqS, bkS, ctS, exprS, retS, retNS, ifS, evSl, setS, SK.loop, gN, gNil, gCons, gT, asgS, parS, defF, defK, raiseS, absC, divmodC, mmC, stL, itL, itT, itR1, itR2, itE, shL, itZ, itV, forS, evD, methL, appL, clrL, popL, insL, trL, extL, setixS, argS, argSs, callI, callN, hereA, nextA, negE, itS, wipeR, compE, compD, yesT, seqD, listC, tupC, numd, zipd, nxS, frSl, retSl, retSls, retOk, retOks, tryAsS, tryOnlyS, lookB, kinE, xfE, lookF, frzE, isTR, isTB, allC, blsD, gU, raiseIS, at0, at1, at2, at3]
        exact q _
  · exact h.elim
theorem to__law_fit : ∀ ss K E, F__law_fit ss K E → defF [false, false] 4 sf__law_fit ss K E := fun ss K E h => by
  unfold F__law_fit at h
  split at h
  · rename_i a b
    obtain ⟨⟨hb, h1⟩, h2⟩ := h
    refine ⟨rfl, ?_⟩
    have ea : (if a < 0 then -a else a) = (a.natAbs : Int) := by split <;> omega
    have eb : (if b < 0 then -b else b) = (b.natAbs : Int) := by split <;> omega
    unfold sf__law_fit
    simp only [seqS, parS, consA, nilA, callV, vE, absC, List.length_cons, List.length_nil, List.replicate, List.cons_append, List.nil_append, List.getElem?_cons_zero, List.getElem?_cons_succ, evSl, List.set, okB, ea, eb, true_and]
    refine ⟨by decide, by decide, ?_⟩
    refine gcd_while (i := 2) (j := 3) (by decide) _ (a.natAbs : Int) (b.natAbs : Int) _ rfl rfl (by omega) (by omega) ?_
    simp [gcd_nat, cE, vE, bE, rE, fE, mE, bin, nilA, consA, bT, andT, orT, notT, tupE, lstE, allV, allM, okB, intR, addR, asL, asT, asD, eqR, eqD_nn, eqD_bb, eqD_ii, eqD_ss, eqD_tt, eqD_ll, eqD_bi, eqD_ib, eqD_nt, eqD_tn, eqD_it, eqD_ti, eqD_ni, eqD_in, eqDs_nn, eqDs_cc, eqDs_nc, eqDs_cn, cmpD, cmpDs, depD, depDs, isNon, isNR, chainE, tvE, andV, orV, notV, ifE, slEV, ixR, callV, lenC, isiC, tyN, pick, retEV, callP, argD, argDs, seqS, bkS, ctS, exprS, retS, retNS, ifS, evSl, setS, SK.loop, gN, gNil, gCons, gT, asgS, parS, defF, defK, raiseS, absC, divmodC, mmC, stL, itL, itT, itR1, itR2, itE, shL, itZ, itV, forS, evD, methL, appL, clrL, popL, insL, trL, extL, setixS, argS, argSs, callI, callN, hereA, nextA, negE, itS, wipeR, compE, compD, yesT, seqD, listC, tupC, numd, zipd, nxS, frSl, retSl, retSls, retOk, retOks, tryAsS, tryOnlyS, lookB, kinE, xfE, lookF, frzE, isTR, isTB, allC, blsD, gU, raiseIS, at0, at1, at2, at3]
    unfold frD at h2
    rw [frac_num hb, frac_den hb] at h2
    have g0 := gcd_pos (a := a) hb
    have gs := gcd_si (a := a) h1 hb
    split
    · rename_i hn
      rw [if_pos hn, Int.zero_sub] at h2
      exact ⟨divOk_of gs.neg (by decide) (by omega), divOk_of gs.neg (by decide) (by omega), h2⟩
    · rename_i hn
      rw [if_neg hn] at h2
      exact ⟨divOk_of gs (by decide) (by omega), divOk_of gs (by decide) (by omega), h2⟩
  · exact h.elim
theorem to__law_plus : ∀ ss K E, F__law_plus ss K E → defF [false, false] 2 sf__law_plus ss K E := to_two fun a b c d K E hb hd sa sb sc sd h => by
  simp [sf__law_plus, cE, vE, bE, rE, fE, mE, bin, nilA, consA, bT, andT, orT, notT, tupE, lstE, allV, allM, okB, intR, addR, asL, asT, asD, eqR, eqD_nn, eqD_bb, eqD_ii, eqD_ss, eqD_tt, eqD_ll, eqD_bi, eqD_ib, eqD_nt, eqD_tn, eqD_it, eqD_ti, eqD_ni, eqD_in, eqDs_nn, eqDs_cc, eqDs_nc, eqDs_cn, cmpD, cmpDs, depD, depDs, isNon, isNR, chainE, tvE, andV, orV, notV, ifE, slEV, ixR, callV, lenC, isiC, tyN, pick, retEV, callP, argD, argDs, seqS, bkS, ctS, exprS, retS, retNS, ifS, evSl, setS, SK.loop, gN, gNil, gCons, gT, asgS, parS, defF, defK, raiseS, absC, divmodC, mmC, stL, itL, itT, itR1, itR2, itE, shL, itZ, itV, forS, evD, methL, appL, clrL, popL, insL, trL, extL, setixS, argS, argSs, callI, callN, hereA, nextA, negE, itS, wipeR, compE, compD, yesT, seqD, listC, tupC, numd, zipd, nxS, frSl, retSl, retSls, retOk, retOks, tryAsS, tryOnlyS, lookB, kinE, xfE, lookF, frzE, isTR, isTB, allC, blsD, gU, raiseIS, at0, at1, at2, at3, F__law_fit, Int.mul_ne_zero hb hd, hb, hd]
  rw [plus_f hb hd]
  exact ⟨.of sa sd (by decide), .of sc sb (by decide), .of sb sd (by decide), (sb.mul sd).mono (by decide), h⟩
theorem to__law_minus : ∀ ss K E, F__law_minus ss K E → defF [false, false] 2 sf__law_minus ss K E := to_two fun a b c d K E hb hd sa sb sc sd h => by
  simp [sf__law_minus, cE, vE, bE, rE, fE, mE, bin, nilA, consA, bT, andT, orT, notT, tupE, lstE, allV, allM, okB, intR, addR, asL, asT, asD, eqR, eqD_nn, eqD_bb, eqD_ii, eqD_ss, eqD_tt, eqD_ll, eqD_bi, eqD_ib, eqD_nt, eqD_tn, eqD_it, eqD_ti, eqD_ni, eqD_in, eqDs_nn, eqDs_cc, eqDs_nc, eqDs_cn, cmpD, cmpDs, depD, depDs, isNon, isNR, chainE, tvE, andV, orV, notV, ifE, slEV, ixR, callV, lenC, isiC, tyN, pick, retEV, callP, argD, argDs, seqS, bkS, ctS, exprS, retS, retNS, ifS, evSl, setS, SK.loop, gN, gNil, gCons, gT, asgS, parS, defF, defK, raiseS, absC, divmodC, mmC, stL, itL, itT, itR1, itR2, itE, shL, itZ, itV, forS, evD, methL, appL, clrL, popL, insL, trL, extL, setixS, argS, argSs, callI, callN, hereA, nextA, negE, itS, wipeR, compE, compD, yesT, seqD, listC, tupC, numd, zipd, nxS, frSl, retSl, retSls, retOk, retOks, tryAsS, tryOnlyS, lookB, kinE, xfE, lookF, frzE, isTR, isTB, allC, blsD, gU, raiseIS, at0, at1, at2, at3, F__law_fit, Int.mul_ne_zero hb hd, hb, hd]
  rw [minus_f hb hd]
  exact ⟨.of sa sd (by decide), .of sc sb (by decide), .of sb sd (by decide), (sb.mul sd).mono (by decide), h⟩
theorem to__law_times : ∀ ss K E, F__law_times ss K E → defF [false, false] 2 sf__law_times ss K E := to_two fun a b c d K E hb hd sa sb sc sd h => by
  simp [sf__law_times, cE, vE, bE, rE, fE, mE, bin, nilA, consA, bT, andT, orT, notT, tupE, lstE, allV, allM, okB, intR, addR, asL, asT, asD, eqR, eqD_nn, eqD_bb, eqD_ii, eqD_ss, eqD_tt, eqD_ll, eqD_bi, eqD_ib, eqD_nt, eqD_tn, eqD_it, eqD_ti, eqD_ni, eqD_in, eqDs_nn, eqDs_cc, eqDs_nc, eqDs_cn, cmpD, cmpDs, depD, depDs, isNon, isNR, chainE, tvE, andV, orV, notV, ifE, slEV, ixR, callV, lenC, isiC, tyN, pick, retEV, callP, argD, argDs, seqS, bkS, ctS, exprS, retS, retNS, ifS, evSl, setS, SK.loop, gN, gNil, gCons, gT, asgS, parS, defF, defK, raiseS, absC, divmodC, mmC, stL, itL, itT, itR1, itR2, itE, shL, itZ, itV, forS, evD, methL, appL, clrL, popL, insL, trL, extL, setixS, argS, argSs, callI, callN, hereA, nextA, negE, itS, wipeR, compE, compD, yesT, seqD, listC, tupC, numd, zipd, nxS, frSl, retSl, retSls, retOk, retOks, tryAsS, tryOnlyS, lookB, kinE, xfE, lookF, frzE, isTR, isTB, allC, blsD, gU, raiseIS, at0, at1, at2, at3, F__law_fit, Int.mul_ne_zero hb hd, hb, hd]
  rw [times_f hb hd]
  exact ⟨.of sa sc (by decide), .of sb sd (by decide), (sb.mul sd).mono (by decide), h⟩
theorem to__law_over : ∀ ss K E, F__law_over ss K E → defF [false, false] 2 sf__law_over ss K E := fun ss K E q => by
  unfold F__law_over at q
  split at q
  · rename_i a b c d
    obtain ⟨⟨hb, hd, hc, sa, sb, sc, sd⟩, h⟩ := q
    simp [sf__law_over, cE, vE, bE, rE, fE, mE, bin, nilA, consA, bT, andT, orT, notT, tupE, lstE, allV, allM, okB, intR, addR, asL, asT, asD, eqR, eqD_nn, eqD_bb, eqD_ii, eqD_ss, eqD_tt, eqD_ll, eqD_bi, eqD_ib, eqD_nt, eqD_tn, eqD_it, eqD_ti, eqD_ni, eqD_in, eqDs_nn, eqDs_cc, eqDs_nc, eqDs_cn, cmpD, cmpDs, depD, depDs, isNon, isNR, chainE, tvE, andV, orV, notV, ifE, slEV, ixR, callV, lenC, isiC, tyN, pick, retEV, callP, argD, argDs, seqS, bkS, ctS, exprS, retS, retNS, ifS, evSl, setS, SK.loop, gN, gNil, gCons, gT, asgS, parS, defF, defK, raiseS, absC, divmodC, mmC, stL, itL, itT, itR1, itR2, itE, shL, itZ, itV, forS, evD, methL, appL, clrL, popL, insL, trL, extL, setixS, argS, argSs, callI, callN, hereA, nextA, negE, itS, wipeR, compE, compD, yesT, seqD, listC, tupC, numd, zipd, nxS, frSl, retSl, retSls, retOk, retOks, tryAsS, tryOnlyS, lookB, kinE, xfE, lookF, frzE, isTR, isTB, allC, blsD, gU, raiseIS, at0, at1, at2, at3, F__law_fit, hb, hc]
    rw [over_f hb hd hc]
    exact ⟨.of sa sd (by decide), .of sb sc (by decide), (sb.mul sc).mono (by decide), h⟩
  · exact q.elim
end VS
set_option Elab.async false
set_option linter.all false
set_option maxRecDepth 100000
set_option maxHeartbeats 4000000
/-! VM4: how two bodies part; drawn bodies. Own work. -/
set_option Elab.async false
set_option linter.all false
set_option maxRecDepth 100000
set_option maxHeartbeats 4000000
/-! VM5: push and might; two drawn bodies. Own work. -/
namespace VS
open PySem PySem.Spec PyProof.Rows
/-- a body, by its numbers -/
structure Bd where
  a : Int
  b : Int
  c : Int
  d : Int
  m : Int
abbrev Bd.u (x : Bd) : Rat := (x.c : Rat) / (x.d : Rat)
def unBd : D → Option Bd
  | .tup [.tup [.int a, .int b], .tup [.int c, .int d], .int m] => some ⟨a, b, c, d, m⟩
  | _ => none
def bdD (x : Bd) : D := .tup [.tup [.int x.a, .int x.b], .tup [.int x.c, .int x.d], .int x.m]
theorem unBd_some {d : D} {x : Bd} (h : unBd d = some x) : d = bdD x := by
  unfold unBd at h
  split at h
  · cases h; rfl
  · cases h
def unBds : List D → Option (List Bd)
  | [] => some []
  | d :: ds => match unBd d, unBds ds with
    | some x, some xs => some (x :: xs)
    | _, _ => none
theorem unBds_some : ∀ {ds : List D} {xs : List Bd}, unBds ds = some xs → ds = xs.map bdD
  | [], xs, h => by cases h; rfl
  | d :: ds, xs, h => by
    unfold unBds at h
    split at h
    · rename_i x xs' e1 e2
      cases h
      rw [List.map_cons, ← unBds_some e2, ← unBd_some e1]
    · cases h
theorem unBds_map : ∀ (xs : List Bd), unBds (xs.map bdD) = some xs
  | [] => rfl
  | x :: xs => by
    rw [List.map_cons]
    show (match unBd (bdD x), unBds (xs.map bdD) with | some x, some xs => some (x :: xs) | _, _ => none) = _
    rw [unBds_map xs]
    rfl
def gv_NOUGHT : D := .tup [.int 0, .int 1]
theorem step_lt (q : Rat) {x y : Int} (h0 : 0 ≤ x) (h1 : 0 ≤ y) : q < q + (1 + (x : Rat)) / (1 + (y : Rat)) := by
  have hx : (0 : Rat) < 1 + (x : Rat) := by
    have : (0 : Rat) ≤ (x : Rat) := by exact_mod_cast h0
    grind
  have hy : (0 : Rat) < 1 + (y : Rat) := by
    have : (0 : Rat) ≤ (y : Rat) := by exact_mod_cast h1
    grind
  have : 0 < (1 + (x : Rat)) / (1 + (y : Rat)) := by
    rw [Rat.div_def]
    exact Rat.mul_pos hx (Rat.inv_pos.mpr hy)
  grind
end VS
set_option Elab.async false
set_option linter.all false
set_option maxRecDepth 100000
set_option maxHeartbeats 4000000
/-! VM6: bodies with fractions. Own work. -/
namespace VS
open PySem PySem.Spec PyProof.Rows
/-- a body -/
structure Bw where
  p : Rat
  u : Rat
  m : Int
def wD (b : Bw) : D := .tup [frD b.p, frD b.u, .int b.m]
def negW (b : Bw) : Bw := ⟨-b.p, -b.u, b.m⟩
def Bw.raw (b : Bw) : Bd := ⟨b.p.num, b.p.den, b.u.num, b.u.den, b.m⟩
theorem unBds_w (bs : List Bw) : unBds (bs.map wD) = some (bs.map Bw.raw) := by
  have : bs.map wD = (bs.map Bw.raw).map bdD := by rw [List.map_map]; rfl
  rw [this, unBds_map]
theorem retOks_w : ∀ bs : List Bw, retOks (bs.map wD) = true
  | [] => rfl
  | b :: bs => by
    rw [List.map_cons]
    show (retOk (wD b) && retOks (bs.map wD)) = true
    rw [retOks_w bs]
    rfl
end VS
set_option Elab.async false
set_option linter.all false
set_option maxRecDepth 100000
set_option maxHeartbeats 4000000
/-! VM7: bodies seen from a speed, mirrored. Own work. -/
namespace VS
open PySem PySem.Spec PyProof.Rows
open L2 (V Hp Cx WX)
def negB (x : Bd) : D := .tup [frD (-((x.a : Rat) / x.b)), frD (-((x.c : Rat) / x.d)), .int x.m]
def NumOk (n : Nat) (x : Bd) : Prop := x.b ≠ 0 ∧ x.d ≠ 0 ∧ Si n x.a ∧ Si n x.b ∧ Si n x.c ∧ Si n x.d
theorem negB_raw (b : Bw) : negB b.raw = wD (negW b) := by
  unfold negB Bw.raw wD negW
  simp only [nd]
def F_turned_about : FS := fun ss K _ => match ss with
  | [.v (.tup [.tup [.int a, .int b], .tup [.int c, .int d], .int m])] => NumOk 3000 ⟨a, b, c, d, m⟩ ∧ K (.v (negB ⟨a, b, c, d, m⟩)) []
  | _ => False
def F_mirrored : FS := fun ss K _ => match ss with
  | [.v (.lst _ ds)] => (match unBds ds with
    | some xs => (xs.length ≤ 1000 ∧ ∀ x ∈ xs, NumOk 3000 x) ∧ K (.m (.l (xs.reverse.map negB))) []
    | none => False)
  | _ => False
def F_seen_from : FS := fun ss K _ => match ss with
  | [.v (.tup [p, .tup [.int a, .int b], m]), .v (.tup [.int c, .int d])] => (retOk p = true ∧ retOk m = true ∧ b ≠ 0 ∧ d ≠ 0 ∧ Si 3000 a ∧ Si 3000 b ∧ Si 3000 c ∧ Si 3000 d) ∧ K (.v (.tup [p, frD ((a : Rat) / b - (c : Rat) / d), m])) []
  | _ => False
def sf_turned_about : SS := (retS (tupE (consA true (callP F_minus [] (consA true (cE gv_NOUGHT) (consA true (bin true (vE 0) (cE (.int 0)) ixR) nilA))) (consA true (callP F_minus [] (consA true (cE gv_NOUGHT) (consA true (bin true (vE 0) (cE (.int 1)) ixR) nilA))) (consA true (bin true (vE 0) (cE (.int 2)) ixR) nilA)))))
def sf_mirrored : SS := (retS (compE [1] (itV (consA true (vE 0) nilA)) (gN 1 true) yesT (callP F_turned_about [] (consA true (vE 1) nilA))))
def sf_seen_from : SS := (retS (tupE (consA true (bin true (vE 0) (cE (.int 0)) ixR) (consA true (callP F_minus [] (consA true (bin true (vE 0) (cE (.int 1)) ixR) (consA true (vE 1) nilA))) (consA true (bin true (vE 0) (cE (.int 2)) ixR) nilA)))))
theorem m_turned_about : MonoF F_turned_about := fun ss K K' E E' hk he h => by
  unfold F_turned_about at h ⊢
  split at h <;> first | exact h.elim | exact hk _ _ h | exact ⟨h.1, hk _ _ h.2⟩ | (intros; apply hk; apply h <;> assumption) | (refine ⟨h.1, ?_⟩; intros; apply hk; apply h.2 <;> assumption)
theorem m_mirrored : MonoF F_mirrored := fun ss K K' E E' hk he h => by
  unfold F_mirrored at h ⊢
  split at h
  · split at h
    · exact ⟨h.1, hk _ _ h.2⟩
    · exact h.elim
  · exact h.elim
theorem m_seen_from : MonoF F_seen_from := fun ss K K' E E' hk he h => by
  unfold F_seen_from at h ⊢
  split at h <;> first | exact h.elim | exact hk _ _ h | exact ⟨h.1, hk _ _ h.2⟩ | (intros; apply hk; apply h <;> assumption) | (refine ⟨h.1, ?_⟩; intros; apply hk; apply h.2 <;> assumption)
theorem to_turned_about : ∀ ss K E, F_turned_about ss K E → defF [false] 1 sf_turned_about ss K E := fun ss K E h => by
  unfold F_turned_about at h
  split at h
  · rename_i a b c d m
    obtain ⟨⟨hb, hd, sa, sb, sc, sd⟩, h⟩ := h
    simp at hb hd sa sb sc sd
    have l := @Si.mono
    have i0 : Si 4000 0 := (Si.lit (n := 1)).mono (by decide)
    have i1 : Si 4000 1 := (Si.lit (n := 1)).mono (by decide)
    have e : ∀ x : Rat, 0 / 1 - x = -x := fun x => by grind
    simp [sf_turned_about, cE, vE, bE, rE, fE, mE, bin, nilA, consA, bT, andT, orT, notT, tupE, lstE, allV, allM, okB, intR, addR, asL, asT, asD, eqR, eqD_nn, eqD_bb, eqD_ii, eqD_ss, eqD_tt, eqD_ll, eqD_bi, eqD_ib, eqD_nt, eqD_tn, eqD_it, eqD_ti, eqD_ni, eqD_in, eqDs_nn, eqDs_cc, eqDs_nc, eqDs_cn, cmpD, cmpDs, depD, depDs, isNon, isNR, chainE, tvE, andV, orV, notV, ifE, slEV, ixR, callV, lenC, isiC, tyN, pick, retEV, callP, argD, argDs, seqS, bkS, ctS, exprS, retS, retNS, ifS, evSl, setS, SK.loop, gN, gNil, gCons, gT, asgS, parS, defF, defK, raiseS, absC, divmodC, mmC, stL, itL, itT, itR1, itR2, itE, shL, itZ, itV, forS, evD, methL, appL, clrL, popL, insL, trL, extL, setixS, argS, argSs, callI, callN, hereA, nextA, negE, itS, wipeR, compE, compD, yesT, seqD, listC, tupC, numd, zipd, nxS, frSl, retSl, retSls, retOk, retOks, tryAsS, tryOnlyS, lookB, kinE, xfE, lookF, frzE, isTR, isTB, allC, blsD, gU, raiseIS, at0, at1, at2, at3, gv_NOUGHT, F_minus, F_two, hb, hd, e]
    exact ⟨⟨i0, i1, l sa (by decide), l sb (by decide)⟩, ⟨i0, i1, l sc (by decide), l sd (by decide)⟩, h⟩
  · exact h.elim
theorem to_seen_from : ∀ ss K E, F_seen_from ss K E → defF [false, false] 2 sf_seen_from ss K E := fun ss K E h => by
  unfold F_seen_from at h
  split at h
  · rename_i p a b m c d
    obtain ⟨⟨hp, hm, hb, hd, sa, sb, sc, sd⟩, h⟩ := h
    have l := @Si.mono
    simp [sf_seen_from, cE, vE, bE, rE, fE, mE, bin, nilA, consA, bT, andT, orT, notT, tupE, lstE, allV, allM, okB, intR, addR, asL, asT, asD, eqR, eqD_nn, eqD_bb, eqD_ii, eqD_ss, eqD_tt, eqD_ll, eqD_bi, eqD_ib, eqD_nt, eqD_tn, eqD_it, eqD_ti, eqD_ni, eqD_in, eqDs_nn, eqDs_cc, eqDs_nc, eqDs_cn, cmpD, cmpDs, depD, depDs, isNon, isNR, chainE, tvE, andV, orV, notV, ifE, slEV, ixR, callV, lenC, isiC, tyN, pick, retEV, callP, argD, argDs, seqS, bkS, ctS, exprS, retS, retNS, ifS, evSl, setS, SK.loop, gN, gNil, gCons, gT, asgS, parS, defF, defK, raiseS, absC, divmodC, mmC, stL, itL, itT, itR1, itR2, itE, shL, itZ, itV, forS, evD, methL, appL, clrL, popL, insL, trL, extL, setixS, argS, argSs, callI, callN, hereA, nextA, negE, itS, wipeR, compE, compD, yesT, seqD, listC, tupC, numd, zipd, nxS, frSl, retSl, retSls, retOk, retOks, tryAsS, tryOnlyS, lookB, kinE, xfE, lookF, frzE, isTR, isTB, allC, blsD, gU, raiseIS, at0, at1, at2, at3, F_minus, F_two, hb, hd, hp, hm]
    exact ⟨⟨l sa (by decide), l sb (by decide), l sc (by decide), l sd (by decide)⟩, h⟩
  · exact h.elim
theorem mirror_comp {ρ : Rho} (hρ : ∃ s, ρ = [s, .no]) {K : List D → Prop} : ∀ (xs : List Bd) (acc : List D), (∀ x ∈ xs, NumOk 3000 x) → K (acc ++ xs.map negB) →
    compD [1] (gN 1 true) yesT (callP F_turned_about [] (consA true (vE 1) nilA)) ρ (xs.map bdD) acc K
  | [], acc, _, h => by simpa [compD] using h
  | x :: xs, acc, hx, h => by
    obtain ⟨s, rfl⟩ := hρ
    have ih := mirror_comp (ρ := [s, .no]) ⟨s, rfl⟩ (K := K) xs (acc ++ [negB x]) (fun y hy => hx y (List.mem_cons_of_mem _ hy)) (by simpa using h)
    rw [List.map_cons]
    simp [cE, vE, bE, rE, fE, mE, bin, nilA, consA, bT, andT, orT, notT, tupE, lstE, allV, allM, okB, intR, addR, asL, asT, asD, eqR, eqD_nn, eqD_bb, eqD_ii, eqD_ss, eqD_tt, eqD_ll, eqD_bi, eqD_ib, eqD_nt, eqD_tn, eqD_it, eqD_ti, eqD_ni, eqD_in, eqDs_nn, eqDs_cc, eqDs_nc, eqDs_cn, cmpD, cmpDs, depD, depDs, isNon, isNR, chainE, tvE, andV, orV, notV, ifE, slEV, ixR, callV, lenC, isiC, tyN, pick, retEV, callP, argD, argDs, seqS, bkS, ctS, exprS, retS, retNS, ifS, evSl, setS, SK.loop, gN, gNil, gCons, gT, asgS, parS, defF, defK, raiseS, absC, divmodC, mmC, stL, itL, itT, itR1, itR2, itE, shL, itZ, itV, forS, evD, methL, appL, clrL, popL, insL, trL, extL, setixS, argS, argSs, callI, callN, hereA, nextA, negE, itS, wipeR, compE, compD, yesT, seqD, listC, tupC, numd, zipd, nxS, frSl, retSl, retSls, retOk, retOks, tryAsS, tryOnlyS, lookB, kinE, xfE, lookF, frzE, isTR, isTB, allC, blsD, gU, raiseIS, at0, at1, at2, at3, bdD, F_turned_about]
    exact ⟨hx x List.mem_cons_self, ih⟩
theorem retOks_neg : ∀ xs : List Bd, retOks (xs.map negB) = true
  | [] => rfl
  | x :: xs => by
    rw [List.map_cons]
    show (retOk (negB x) && retOks (xs.map negB)) = true
    rw [retOks_neg xs]
    rfl
theorem to_mirrored : ∀ ss K E, F_mirrored ss K E → defF [false] 2 sf_mirrored ss K E := fun ss K E h => by
  unfold F_mirrored at h
  split at h
  · rename_i st ds
    split at h
    · rename_i xs e
      obtain ⟨⟨hl, hx⟩, h⟩ := h
      rw [unBds_some e]
      simp only [sf_mirrored, retS, compE, itV, consA, nilA, vE, stL, defF, defK, List.length_cons, List.length_nil, List.cons_append, List.nil_append, List.replicate, List.getElem?_cons_zero, okB, true_and, wipeR, List.set]
      rw [← List.map_reverse]
      refine ⟨by simp; omega, mirror_comp ⟨_, rfl⟩ _ _ (fun x hx' => hx x (by simpa using hx')) ?_⟩
      simp [pick, retEV, retSl, retSls]
      refine ⟨?_, by simpa using h⟩
      have := retOks_neg xs.reverse
      simpa using this
    · exact h.elim
  · exact h.elim
theorem mir (bs : List Bw) : (bs.map Bw.raw).reverse.map negB = (bs.reverse.map negW).map wD := by
  rw [← List.map_reverse, List.map_map, List.map_map]
  apply List.map_congr_left
  intro b _
  exact negB_raw b
theorem negneg (bs : List Bw) : ((bs.reverse.map negW).reverse.map negW) = bs := by
  rw [← List.map_reverse, List.reverse_reverse, List.map_map]
  conv => rhs; rw [← List.map_id bs]
  apply List.map_congr_left
  intro b _
  simp [negW, Rat.neg_neg]
theorem F_mirrored_w {st : Bool} {bs : List Bw} {K : EV → List Sl → Prop} {E : Exc → List Sl → Prop} (hl : bs.length ≤ 1000) (hb : ∀ b ∈ bs, Sm 3000 b.p ∧ Sm 3000 b.u) : F_mirrored [.v (.lst st (bs.map wD))] K E = K (.m (.l ((bs.reverse.map negW).map wD))) [] := by
  unfold F_mirrored
  simp only [unBds_w, mir]
  apply propext
  refine ⟨fun h => h.2, fun h => ⟨⟨by simpa using hl, fun x hx => ?_⟩, h⟩⟩
  obtain ⟨b, hb1, rfl⟩ := List.mem_map.mp hx
  obtain ⟨h1, h2⟩ := hb b hb1
  exact ⟨den_ne b.p, den_ne b.u, h1.1, h1.2, h2.1, h2.2⟩
end VS
namespace VS
theorem Sm.n {k n : Nat} {q : Rat} (h : Sm k q) (hk : k ≤ n := by decide) : Si n q.num := Si.mono h.1 hk
theorem Sm.d {k n : Nat} {q : Rat} (h : Sm k q) (hk : k ≤ n := by decide) : Si n q.den := Si.mono h.2 hk
theorem dpos (q : Rat) : 0 < q.den := q.den_pos
theorem Sm.neg {k : Nat} {q : Rat} (h : Sm k q) : Sm k (-q) := ⟨by rw [Rat.neg_num]; exact h.1.neg, by rw [Rat.neg_den]; exact h.2⟩
end VS
set_option Elab.async false
set_option linter.all false
set_option maxRecDepth 100000
set_option maxHeartbeats 4000000
/-! VM17: the worlds of the laws about clumps, drawn; moments; bodies led on. Own work. -/
namespace VS
open PySem PySem.Spec PyProof.Rows
open L2 (V Hp Cx WX)
abbrev noMoment : Exc := ⟨"NoMoment", [], []⟩
def F_need_moment : FS := fun ss K E => match ss with
  | [.v (.tup [.int a, .int b])] => (0 < b ∧ Si 4000 a ∧ Si 4000 b) ∧ if (a : Rat) / b < 0 then E noMoment [] else K (.v .non) []
  | _ => False
def SmallOk (q : Rat) : Prop := ∃ k : Int, q = (k : Rat) / 6 ∧ -72 ≤ k ∧ k ≤ 72
def F__law_small : FS := fun ss K _ => match ss with
  | [.l [.int _]] => ∀ q n', SmallOk q → K (.v (frD q)) [.l [.int n']]
  | _ => False
theorem m__law_small : MonoF F__law_small := fun ss K K' E E' hk he h => by
  unfold F__law_small at h ⊢
  split at h <;> first | exact h.elim | exact hk _ _ h | exact ⟨h.1, hk _ _ h.2⟩ | (intros; apply hk; apply h <;> assumption) | (refine ⟨h.1, ?_⟩; intros; apply hk; apply h.2 <;> assumption)
theorem div_1 (x : Rat) : x / 1 = x := by grind
theorem z1 (x : Rat) : 0 / x = 0 := by grind
theorem sm4k {k : Nat} {a b : Int} (ha : Si k a) (hb : Si k b) (h0 : b ≠ 0) : Sm k ((a : Rat) / (b : Rat)) := by
  have := Sm.div ha hb h0
  rwa [Nat.max_self] at this
/-- a fraction with the bottom D, and a bound -/
def Fq (D N : Int) (q : Rat) : Prop := ∃ k : Int, q = (k : Rat) / (D : Rat) ∧ -N ≤ k ∧ k ≤ N
theorem Fq.add {D N M : Int} {p q : Rat} (hp : Fq D N p) (hq : Fq D M q) : Fq D (N + M) (p + q) := by
  obtain ⟨k, rfl, k0, k1⟩ := hp
  obtain ⟨l, rfl, l0, l1⟩ := hq
  exact ⟨k + l, by rw [Rat.intCast_add]; grind, by omega, by omega⟩
theorem Fq.sub {D N M : Int} {p q : Rat} (hp : Fq D N p) (hq : Fq D M q) : Fq D (N + M) (p - q) := by
  obtain ⟨k, rfl, k0, k1⟩ := hp
  obtain ⟨l, rfl, l0, l1⟩ := hq
  exact ⟨k - l, by rw [Rat.intCast_sub]; grind, by omega, by omega⟩
theorem Fq.mono {D N M : Int} {q : Rat} (h : Fq D N q) (l : N ≤ M) : Fq D M q := by
  obtain ⟨k, e, k0, k1⟩ := h
  exact ⟨k, e, by omega, by omega⟩
theorem Fq.smul {D N L m : Int} {q : Rat} (h : Fq D N q) (m0 : 0 ≤ m) (m1 : m ≤ L) (n0 : 0 ≤ N) : Fq D (L * N) ((m : Rat) * q) := by
  obtain ⟨k, rfl, k0, k1⟩ := h
  have h1 : m * k ≤ m * N := Int.mul_le_mul_of_nonneg_left k1 m0
  have h2 : m * N ≤ L * N := Int.mul_le_mul_of_nonneg_right m1 n0
  have h3 : m * (-N) ≤ m * k := Int.mul_le_mul_of_nonneg_left k0 m0
  have h4 : m * (-N) = -(m * N) := Int.mul_neg ..
  exact ⟨m * k, by rw [Rat.intCast_mul]; grind, by omega, by omega⟩
theorem Fq.sm {D N : Int} {q : Rat} {n m : Nat} (h : Fq D N q) (hn : N < 2 ^ n) (hD : Si m D) (d0 : D ≠ 0) (n0 : 0 ≤ N) : Sm (max n m) q := by
  obtain ⟨k, rfl, k0, k1⟩ := h
  have : Si n k := by
    unfold Si
    have : (2 : Int) ^ n = ((2 ^ n : Nat) : Int) := by push_cast; rfl
    omega
  exact Sm.div this hD d0
theorem small_fq {q : Rat} (h : SmallOk q) : Fq 6 72 q := h
/-- a body of a world of the laws about clumps -/
structure COk (b : Bw) : Prop where
  p : Fq 6 3000 b.p
  u : Fq 72 300000 b.u
  m1 : 1 ≤ b.m
  m2 : b.m ≤ 80
structure CWorld (bs : List Bw) : Prop where
  ne : bs ≠ []
  le : bs.length ≤ 12
  ok : ∀ b ∈ bs, COk b
  up : bs.Pairwise fun a b => a.p < b.p
def F__law_led_together : FS := fun ss K _ => ∃ (n : Int) (st : Bool) (bs : List Bw), ss = [.l [.int n], .v (.lst st (bs.map wD))] ∧ (CWorld bs ∧ (∀ b ∈ bs, Fq 6 1000 b.p ∧ Fq 6 72 b.u)) ∧ ∀ bs' n', CWorld bs' → K (.m (.l (bs'.map wD))) [.l [.int n']]
def F__law_world : FS := fun ss K _ => match ss with
  | [.l [.int _]] => ∀ bs n', CWorld bs → K (.m (.l (bs.map wD))) [.l [.int n']]
  | _ => False
def sf_need_moment : SS := (ifS (bT (callP F_under [] (consA true (vE 0) (consA true (cE gv_NOUGHT) nilA)))) (raiseS "NoMoment") nxS)
def sf__law_small : SS := (retS (callP F__law_fit [] (consA false (bin true (callI F__law_take 0 (hereA 0 (consA true (cE (.int 25)) nilA))) (cE (.int 12)) (intR (fun _ _ => True) fun i j => .int (i - j))) (consA true (bin false (lstE (consA true (cE (.int 1)) (consA true (cE (.int 1)) (consA true (cE (.int 2)) (consA true (cE (.int 3)) nilA))))) (callI F__law_take 0 (hereA 0 (consA true (cE (.int 4)) nilA))) ixR) nilA))))
def sf__law_world_r1 : SS := (seqS (ifS (bT (bin true (callI F__law_take 0 (hereA 0 (consA true (cE (.int 3)) nilA))) (cE (.int 2)) (eqR false))) (setS 2 false (callI F__law_led_together 0 (hereA 0 (consA true (fE 2) nilA)))) nxS)
  (retS (mE 2)))
def sf__law_world : SS := (seqS (setS 1 true (callI F__law_small 0 (hereA 0 nilA)))
  (seqS (setS 2 false (lstE nilA))
  (seqS (forS (itR1 (consA true (bin false (cE (.int 1)) (callI F__law_take 0 (hereA 0 (consA true (bin false (lstE (consA true (cE (.int 4)) (consA true (cE (.int 4)) (consA true (cE (.int 6)) (consA true (cE (.int 12)) nilA))))) (callI F__law_take 0 (hereA 0 (consA true (cE (.int 4)) nilA))) ixR) nilA))) addR) nilA)) (gN 3 true) (seqS (setS 4 true (bin false (cE (.int 1)) (callI F__law_take 0 (hereA 0 (consA true (bin false (lstE (consA true (cE (.int 3)) (consA true (cE (.int 3)) (consA true (cE (.int 5)) (consA true (cE (.int 80)) nilA))))) (callI F__law_take 0 (hereA 0 (consA true (cE (.int 4)) nilA))) ixR) nilA))) addR))
  (seqS (exprS (methL 2 appL (consA true (tupE (consA false (vE 1) (consA true (callI F__law_small 0 (hereA 0 nilA)) (consA true (vE 4) nilA)))) nilA)))
  (setS 1 true (callP F__law_plus [] (consA false (vE 1) (consA true (callP F__law_fit [] (consA false (bin false (cE (.int 1)) (callI F__law_take 0 (hereA 0 (consA true (cE (.int 9)) nilA))) addR) (consA true (bin false (cE (.int 1)) (callI F__law_take 0 (hereA 0 (consA true (cE (.int 3)) nilA))) addR) nilA))) nilA)))))))
  sf__law_world_r1)))
def sf__law_led_together_r1 : SS := (retS (mE 6))
def sf__law_led_together : SS := (seqS (setS 2 true (callI F__law_take 0 (hereA 0 (consA true (callV lenC (consA true (vE 1) nilA)) nilA))))
  (seqS (setS 3 true (bin false (cE (.int 2)) (callI F__law_take 0 (hereA 0 (consA true (cE (.int 5)) nilA))) addR))
  (seqS (setS 4 true (callP F__law_fit [] (consA false (bin false (cE (.int 1)) (callI F__law_take 0 (hereA 0 (consA true (cE (.int 4)) nilA))) addR) (consA true (bin false (cE (.int 1)) (callI F__law_take 0 (hereA 0 (consA true (cE (.int 3)) nilA))) addR) nilA))))
  (seqS (setS 5 true (callP F__law_plus [] (consA false (bin true (bin true (vE 1) (vE 2) ixR) (cE (.int 0)) ixR) (consA true (callI F__law_small 0 (hereA 0 nilA)) nilA))))
  (seqS (setS 6 false (lstE nilA))
  (seqS (forS (itE (consA true (vE 1) nilA)) (gT 2 (gCons (gN 7 true) (gCons (gN 8 true) gNil))) (seqS (ifS (bT (chainE true true (fun i j => decide (i ≤ j)) (fun i j => decide (i < j)) (vE 2) (vE 7) (bin true (vE 2) (vE 3) addR))) (seqS (setS 9 true (callP F__law_minus [] (consA true (vE 5) (consA true (bin true (vE 8) (cE (.int 0)) ixR) nilA))))
  (setS 8 true (tupE (consA true (bin true (vE 8) (cE (.int 0)) ixR) (consA true (callP F__law_over [] (consA true (vE 9) (consA true (vE 4) nilA))) (consA true (bin true (vE 8) (cE (.int 2)) ixR) nilA)))))) nxS)
  (exprS (methL 6 appL (consA true (vE 8) nilA)))))
  sf__law_led_together_r1))))))
theorem m_need_moment : MonoF F_need_moment := fun ss K K' E E' hk he h => by
  unfold F_need_moment at h ⊢
  split at h <;> first | exact h.elim | (refine ⟨h.1, ?_⟩; have h2 := h.2; split at h2 <;> rename_i z <;> first | (rw [if_pos z]; exact hk _ _ h2) | (rw [if_neg z]; exact he _ _ h2) | (rw [if_pos z]; exact he _ _ h2) | (rw [if_neg z]; exact hk _ _ h2))
theorem m__law_led_together : MonoF F__law_led_together := fun ss K K' E E' hk he ⟨n, st, bs, h1, h2, h3⟩ => ⟨n, st, bs, h1, h2, fun bs' n' h => hk _ _ (h3 bs' n' h)⟩
theorem m__law_world : MonoF F__law_world := fun ss K K' E E' hk he h => by
  unfold F__law_world at h ⊢
  split at h <;> first | exact h.elim | exact hk _ _ h | exact ⟨h.1, hk _ _ h.2⟩ | (intros; apply hk; apply h <;> assumption) | (refine ⟨h.1, ?_⟩; intros; apply hk; apply h.2 <;> assumption)
theorem to_need_moment : ∀ ss K E, F_need_moment ss K E → defF [false] 1 sf_need_moment ss K E := fun ss K E h => by
  unfold F_need_moment at h
  split at h
  · rename_i a b
    obtain ⟨⟨hb, sa, sb⟩, h⟩ := h
    have i0 : Si 4000 0 := (Si.lit (n := 1)).mono (by decide)
    have i1 : Si 4000 1 := (Si.lit (n := 1)).mono (by decide)
    by_cases h0 : (a : Rat) / b < 0
    · rw [if_pos h0] at h
      simp [sf_need_moment, cE, vE, bE, rE, fE, mE, bin, nilA, consA, bT, andT, orT, notT, tupE, lstE, allV, allM, okB, intR, addR, asL, asT, asD, eqR, eqD_nn, eqD_bb, eqD_ii, eqD_ss, eqD_tt, eqD_ll, eqD_bi, eqD_ib, eqD_nt, eqD_tn, eqD_it, eqD_ti, eqD_ni, eqD_in, eqDs_nn, eqDs_cc, eqDs_nc, eqDs_cn, cmpD, cmpDs, depD, depDs, isNon, isNR, chainE, tvE, andV, orV, notV, ifE, slEV, ixR, callV, lenC, isiC, tyN, pick, retEV, callP, argD, argDs, seqS, bkS, ctS, exprS, retS, retNS, ifS, evSl, setS, SK.loop, gN, gNil, gCons, gT, asgS, parS, defF, defK, raiseS, absC, divmodC, mmC, stL, itL, itT, itR1, itR2, itE, shL, itZ, itV, forS, evD, methL, appL, clrL, popL, insL, trL, extL, setixS, argS, argSs, callI, callN, hereA, nextA, negE, itS, wipeR, compE, compD, yesT, seqD, listC, tupC, numd, zipd, nxS, frSl, retSl, retSls, retOk, retOks, tryAsS, tryOnlyS, lookB, kinE, xfE, lookF, frzE, isTR, isTB, allC, blsD, gU, raiseIS, at0, at1, at2, at3, inR, cmpO, heldR, appT, lrE, sortC, intC, intsD, slE, intO, cutD, eqXR, slX, addT, repT, compX, compDx, neYR, lrevE, gv_NOUGHT, F_under, div_1, z1, h0]
      (repeat' with_reducible apply And.intro) <;> try first | assumption | exact Sm.n (by assumption) | exact Sm.d (by assumption) | exact Si.mono (by assumption) (by decide) | exact dpos _ | exact Rat.nz _ | exact Rat.den_nz _
    · rw [if_neg h0] at h
      simp [sf_need_moment, cE, vE, bE, rE, fE, mE, bin, nilA, consA, bT, andT, orT, notT, tupE, lstE, allV, allM, okB, intR, addR, asL, asT, asD, eqR, eqD_nn, eqD_bb, eqD_ii, eqD_ss, eqD_tt, eqD_ll, eqD_bi, eqD_ib, eqD_nt, eqD_tn, eqD_it, eqD_ti, eqD_ni, eqD_in, eqDs_nn, eqDs_cc, eqDs_nc, eqDs_cn, cmpD, cmpDs, depD, depDs, isNon, isNR, chainE, tvE, andV, orV, notV, ifE, slEV, ixR, callV, lenC, isiC, tyN, pick, retEV, callP, argD, argDs, seqS, bkS, ctS, exprS, retS, retNS, ifS, evSl, setS, SK.loop, gN, gNil, gCons, gT, asgS, parS, defF, defK, raiseS, absC, divmodC, mmC, stL, itL, itT, itR1, itR2, itE, shL, itZ, itV, forS, evD, methL, appL, clrL, popL, insL, trL, extL, setixS, argS, argSs, callI, callN, hereA, nextA, negE, itS, wipeR, compE, compD, yesT, seqD, listC, tupC, numd, zipd, nxS, frSl, retSl, retSls, retOk, retOks, tryAsS, tryOnlyS, lookB, kinE, xfE, lookF, frzE, isTR, isTB, allC, blsD, gU, raiseIS, at0, at1, at2, at3, inR, cmpO, heldR, appT, lrE, sortC, intC, intsD, slE, intO, cutD, eqXR, slX, addT, repT, compX, compDx, neYR, lrevE, gv_NOUGHT, F_under, div_1, z1, h0]
      (repeat' with_reducible apply And.intro) <;> try first | assumption | exact Sm.n (by assumption) | exact Sm.d (by assumption) | exact Si.mono (by assumption) (by decide) | exact dpos _ | exact Rat.nz _ | exact Rat.den_nz _
  · exact h.elim
theorem atN {α : Type} {xs : List α} {i : Nat} {x : α} (h : xs[i]? = some x) : L2.atI xs (i : Int) = some x := by
  have hl := (List.getElem?_eq_some_iff.mp h).1
  unfold L2.atI L2.ixN
  rw [if_pos (by omega), if_pos (by omega)]
  exact h
theorem small_sm {q : Rat} (h : SmallOk q) : Sm 10 q := by
  obtain ⟨k, rfl, k0, k1⟩ := h
  exact (Sm.div (n := 8) (m := 8) (a := k) (b := 6) (by unfold Si; omega) (by unfold Si; decide) (by decide)).mono (by decide)
theorem pick4 {a b c d x : Int} (h0 : 0 ≤ x) (h1 : x < 4) : ∃ M : Int, L2.atI [D.int a, D.int b, D.int c, D.int d] x = some (.int M) ∧ (M = a ∨ M = b ∨ M = c ∨ M = d) := by
  have : x = 0 ∨ x = 1 ∨ x = 2 ∨ x = 3 := by omega
  rcases this with rfl | rfl | rfl | rfl
  · exact ⟨a, at0, .inl rfl⟩
  · exact ⟨b, at1, .inr (.inl rfl)⟩
  · exact ⟨c, at2, .inr (.inr (.inl rfl))⟩
  · exact ⟨d, at3, .inr (.inr (.inr rfl))⟩
/-- a fraction whose bottom is 1, 2 or 3, in sixths -/
theorem sixth {x M : Int} (h : M = 1 ∨ M = 2 ∨ M = 3) : ∃ k : Int, (x : Rat) / (M : Rat) = (k : Rat) / 6 ∧ (k = 6 * x ∨ k = 3 * x ∨ k = 2 * x) := by
  rcases h with rfl | rfl | rfl
  · exact ⟨6 * x, by rw [Rat.intCast_mul]; show (x : Rat) / ((1 : Int) : Rat) = ((6 : Int) : Rat) * x / 6; grind, .inl rfl⟩
  · exact ⟨3 * x, by rw [Rat.intCast_mul]; show (x : Rat) / ((2 : Int) : Rat) = ((3 : Int) : Rat) * x / 6; grind, .inr (.inl rfl)⟩
  · exact ⟨2 * x, by rw [Rat.intCast_mul]; show (x : Rat) / ((3 : Int) : Rat) = ((2 : Int) : Rat) * x / 6; grind, .inr (.inr rfl)⟩
theorem to__law_small : ∀ ss K E, F__law_small ss K E → defF [true] 1 sf__law_small ss K E := fun ss K E h => by
  unfold F__law_small at h
  split at h
  · simp [sf__law_small, cE, vE, bE, rE, fE, mE, bin, nilA, consA, bT, andT, orT, notT, tupE, lstE, allV, allM, okB, intR, addR, asL, asT, asD, eqR, eqD_nn, eqD_bb, eqD_ii, eqD_ss, eqD_tt, eqD_ll, eqD_bi, eqD_ib, eqD_nt, eqD_tn, eqD_it, eqD_ti, eqD_ni, eqD_in, eqDs_nn, eqDs_cc, eqDs_nc, eqDs_cn, cmpD, cmpDs, depD, depDs, isNon, isNR, chainE, tvE, andV, orV, notV, ifE, slEV, ixR, callV, lenC, isiC, tyN, pick, retEV, callP, argD, argDs, seqS, bkS, ctS, exprS, retS, retNS, ifS, evSl, setS, SK.loop, gN, gNil, gCons, gT, asgS, parS, defF, defK, raiseS, absC, divmodC, mmC, stL, itL, itT, itR1, itR2, itE, shL, itZ, itV, forS, evD, methL, appL, clrL, popL, insL, trL, extL, setixS, argS, argSs, callI, callN, hereA, nextA, negE, itS, wipeR, compE, compD, yesT, seqD, listC, tupC, numd, zipd, nxS, frSl, retSl, retSls, retOk, retOks, tryAsS, tryOnlyS, lookB, kinE, xfE, lookF, frzE, isTR, isTB, allC, blsD, gU, raiseIS, at0, at1, at2, at3, inR, cmpO, heldR, appT, lrE, sortC, intC, intsD, slE, intO, cutD, eqXR, slX, addT, repT, compX, compDx, neYR, lrevE, F__law_take, F__law_fit]
    refine ⟨by unfold Si; decide, fun x x0 x1 => ⟨by unfold Si; decide, fun y n' y0 y1 => ?_⟩⟩
    obtain ⟨M, hM, hm⟩ := pick4 (a := 1) (b := 1) (c := 2) (d := 3) y0 y1
    rw [hM]
    have hm3 : M = 1 ∨ M = 2 ∨ M = 3 := by omega
    obtain ⟨k, ek, hk⟩ := sixth (x := x - 12) hm3
    have := h (((x - 12 : Int) : Rat) / (M : Rat)) n' ⟨k, ek, by omega, by omega⟩
    exact ⟨⟨by omega, by unfold Si; omega⟩, this⟩
  · exact h.elim
theorem frac_sm {x y : Int} {k : Nat} (hx : Si k (1 + x)) (hy : Si k (1 + y)) (y0 : 0 ≤ y) : Sm k ((1 + (x : Rat)) / (1 + (y : Rat))) := by
  have := sm4k hx hy (by omega)
  rwa [Rat.intCast_add, Rat.intCast_add] at this
theorem frac_pos {x y : Int} (x0 : 0 ≤ x) (y0 : 0 ≤ y) : 0 < (1 + (x : Rat)) / (1 + (y : Rat)) := by
  have := step_lt 0 x0 y0
  grind
theorem numd_len : ∀ (ds : List D) (k : Nat), (numd k ds).length = ds.length
  | [], _ => rfl
  | d :: ds, k => by rw [numd, List.length_cons, List.length_cons, numd_len ds (k + 1)]
theorem fq_sm {D N : Int} {q : Rat} (h : Fq D N q) (n : Nat) (hn : N < 2 ^ n) (hD : Si n D) (d0 : D ≠ 0) (n0 : 0 ≤ N) : Sm n q := by
  have := h.sm hn hD d0 n0
  rwa [Nat.max_self] at this
theorem to__law_led_together : ∀ ss K E, F__law_led_together ss K E → defF [true, false] 10 sf__law_led_together ss K E := fun ss K E h => by
  obtain ⟨n, st, bs, rfl, ⟨cw, fq⟩, h⟩ := h
  have le := cw.le
  have bp : 0 < bs.length := List.length_pos_iff.mpr cw.ne
  simp [sf__law_led_together, cE, vE, bE, rE, fE, mE, bin, nilA, consA, bT, andT, orT, notT, tupE, lstE, allV, allM, okB, intR, addR, asL, asT, asD, eqR, eqD_nn, eqD_bb, eqD_ii, eqD_ss, eqD_tt, eqD_ll, eqD_bi, eqD_ib, eqD_nt, eqD_tn, eqD_it, eqD_ti, eqD_ni, eqD_in, eqDs_nn, eqDs_cc, eqDs_nc, eqDs_cn, cmpD, cmpDs, depD, depDs, isNon, isNR, chainE, tvE, andV, orV, notV, ifE, slEV, ixR, callV, lenC, isiC, tyN, pick, retEV, callP, argD, argDs, seqS, bkS, ctS, exprS, retS, retNS, ifS, evSl, setS, SK.loop, gN, gNil, gCons, gT, asgS, parS, defF, defK, raiseS, absC, divmodC, mmC, stL, itL, itT, itR1, itR2, itE, shL, itZ, itV, forS, evD, methL, appL, clrL, popL, insL, trL, extL, setixS, argS, argSs, callI, callN, hereA, nextA, negE, itS, wipeR, compE, compD, yesT, seqD, listC, tupC, numd, zipd, nxS, frSl, retSl, retSls, retOk, retOks, tryAsS, tryOnlyS, lookB, kinE, xfE, lookF, frzE, isTR, isTB, allC, blsD, gU, raiseIS, at0, at1, at2, at3, inR, cmpO, heldR, appT, lrE, sortC, intC, intsD, slE, intO, cutD, eqXR, slX, addT, repT, compX, compDx, neYR, lrevE, F__law_take, F__law_fit, F__law_plus, F_plus, F_two]
  refine ⟨⟨by omega, by unfold Si; omega⟩, fun at_ a0 a1 => ⟨by unfold Si; decide, fun k k0 k1 => ⟨by unfold Si; decide, fun x x0 x1 => ⟨by unfold Si; decide, fun y n2 y0 y1 => ?_⟩⟩⟩⟩
  have hl : at_.toNat < bs.length := by omega
  have eb0 : L2.atI (bs.map wD) at_ = some (wD bs[at_.toNat]) := by
    have := atN (xs := bs.map wD) (i := at_.toNat) (x := wD bs[at_.toNat]) (by rw [List.getElem?_map, List.getElem?_eq_getElem hl]; rfl)
    rwa [Int.toNat_of_nonneg a0] at this
  have q0 := (fq _ (List.getElem_mem hl)).1
  generalize bs[at_.toNat] = b0 at *
  have sp0 := fq_sm q0 12 (by decide) (by unfold Si; decide) (by decide) (by decide)
  simp [eb0, cE, vE, bE, rE, fE, mE, bin, nilA, consA, bT, andT, orT, notT, tupE, lstE, allV, allM, okB, intR, addR, asL, asT, asD, eqR, eqD_nn, eqD_bb, eqD_ii, eqD_ss, eqD_tt, eqD_ll, eqD_bi, eqD_ib, eqD_nt, eqD_tn, eqD_it, eqD_ti, eqD_ni, eqD_in, eqDs_nn, eqDs_cc, eqDs_nc, eqDs_cn, cmpD, cmpDs, depD, depDs, isNon, isNR, chainE, tvE, andV, orV, notV, ifE, slEV, ixR, callV, lenC, isiC, tyN, pick, retEV, callP, argD, argDs, seqS, bkS, ctS, exprS, retS, retNS, ifS, evSl, setS, SK.loop, gN, gNil, gCons, gT, asgS, parS, defF, defK, raiseS, absC, divmodC, mmC, stL, itL, itT, itR1, itR2, itE, shL, itZ, itV, forS, evD, methL, appL, clrL, popL, insL, trL, extL, setixS, argS, argSs, callI, callN, hereA, nextA, negE, itS, wipeR, compE, compD, yesT, seqD, listC, tupC, numd, zipd, nxS, frSl, retSl, retSls, retOk, retOks, tryAsS, tryOnlyS, lookB, kinE, xfE, lookF, frzE, isTR, isTB, allC, blsD, gU, raiseIS, at0, at1, at2, at3, inR, cmpO, heldR, appT, lrE, sortC, intC, intsD, slE, intO, cutD, eqXR, slX, addT, repT, compX, compDx, neYR, lrevE, wD, F__law_small, F__law_plus, F_plus, F_two, Rat.den_nz, nd]
  have sy : Si 3 (1 + y) := by unfold Si; omega
  refine ⟨⟨by omega, sy.mono (by decide)⟩, fun g n3 hg => ⟨?_, ?_⟩⟩
  · have := small_sm hg
    exact ⟨sp0.1.mono (by decide), sp0.2.mono (by decide), this.1.mono (by decide), this.2.mono (by decide)⟩
  have qm := q0.add (small_fq hg)
  have stm := frac_sm (k := 3) (x := x) (y := y) (by unfold Si; omega) sy y0
  have tp := frac_pos x0 y0
  generalize b0.p + g = mt at *
  have smt := fq_sm qm 12 (by decide) (by unfold Si; decide) (by decide) (by decide)
  have tm0 : (1 + (x : Rat)) / (1 + (y : Rat)) ≠ 0 := by grind
  refine loop_inv (fun i ρ => ∃ x7 x8 x9 out, ρ = [.l [.int n3], .v (.lst st (bs.map wD)), .v (.int at_), .v (.int (2 + k)), .v (frD ((1 + (x : Rat)) / (1 + (y : Rat)))), .v (frD mt), .l (out.map wD), x7, x8, x9] ∧ out.map Bw.p = (bs.take i).map Bw.p ∧ ∀ b ∈ out, COk b) ⟨.no, .no, .no, [], by simp, by simp, by simp⟩ ?_ ?_
  · rintro i e ρ K2 he ⟨x7, x8, x9, out, rfl, hp, hu⟩ next
    rw [numd_get, List.getElem?_map] at he
    obtain ⟨d, hd, rfl⟩ := Option.map_eq_some_iff.mp he
    obtain ⟨b, hb, rfl⟩ := Option.map_eq_some_iff.mp hd
    have mb : b ∈ bs := List.mem_of_getElem? hb
    have cb := cw.ok b mb
    have qb := fq b mb
    have hol : out.length = (bs.take i).length := by simpa using congrArg List.length hp
    have hol2 : out.length ≤ 12 := by rw [hol, List.length_take]; omega
    have etk : bs.take (i + 1) = bs.take i ++ [b] := by rw [List.take_add_one, hb]; rfl
    have fin : ∀ u x7 x8 x9, Fq 72 300000 u → K2 [.l [.int n3], .v (.lst st (bs.map wD)), .v (.int at_), .v (.int (2 + k)), .v (frD ((1 + (x : Rat)) / (1 + (y : Rat)))), .v (frD mt), .l (out.map wD ++ [.tup [frD b.p, frD u, .int b.m]]), x7, x8, x9] := fun u x7 x8 x9 h => by
      refine next _ ⟨x7, x8, x9, out ++ [⟨b.p, u, b.m⟩], by simp [wD], by rw [etk]; simp [hp], fun c hc => ?_⟩
      rcases List.mem_append.mp hc with hc | hc
      · exact hu c hc
      · rw [List.mem_singleton.mp hc]
        exact ⟨cb.p, h, cb.m1, cb.m2⟩
    have sp := fq_sm qb.1 12 (by decide) (by unfold Si; decide) (by decide) (by decide)
    have qw := qm.sub qb.1
    have w1 := fq_sm qw 12 (by decide) (by unfold Si; decide) (by decide) (by decide)
    have qu : Fq 72 300000 ((mt - b.p) / ((1 + (x : Rat)) / (1 + (y : Rat)))) := by
      obtain ⟨j, ej, j0, j1⟩ := qw
      rw [ej]
      have hx : (1 + x = 1 ∨ 1 + x = 2 ∨ 1 + x = 3 ∨ 1 + x = 4) := by omega
      have hy : (1 + y = 1 ∨ 1 + y = 2 ∨ 1 + y = 3) := by omega
      have ex : (1 + (x : Rat)) = ((1 + x : Int) : Rat) := by rw [Rat.intCast_add]; rfl
      have ey : (1 + (y : Rat)) = ((1 + y : Int) : Rat) := by rw [Rat.intCast_add]; rfl
      rw [ex, ey]
      have body : ∀ (X Y c : Int), X ≠ 0 → Y ≠ 0 → c * X = 12 * Y → -40 ≤ c → c ≤ 40 → ∃ k : Int, (j : Rat) / ((6 : Int) : Rat) / ((X : Rat) / (Y : Rat)) = (k : Rat) / ((72 : Int) : Rat) ∧ -300000 ≤ k ∧ k ≤ 300000 := fun X Y c hX hY e c0 c1 => by
        refine ⟨c * j, ?_, ?_, ?_⟩
        · have hX' : (X : Rat) ≠ 0 := by exact_mod_cast hX
          have hY' : (Y : Rat) ≠ 0 := by exact_mod_cast hY
          have e' : (c : Rat) * (X : Rat) = 12 * (Y : Rat) := by exact_mod_cast e
          rw [Rat.intCast_mul]
          show (j : Rat) / 6 / ((X : Rat) / (Y : Rat)) = (c : Rat) * (j : Rat) / 72
          grind
        · have : -(40 * 2072) ≤ c * j := by
            have h1 : (c * j).natAbs ≤ 40 * 2072 := by rw [Int.natAbs_mul]; exact Nat.mul_le_mul (by omega) (by omega)
            omega
          omega
        · have h1 : (c * j).natAbs ≤ 40 * 2072 := by rw [Int.natAbs_mul]; exact Nat.mul_le_mul (by omega) (by omega)
          omega
      rcases hx with hx | hx | hx | hx <;> rcases hy with hy | hy | hy <;> rw [hx, hy]
      · exact body 1 1 12 (by decide) (by decide) (by decide) (by decide) (by decide)
      · exact body 1 2 24 (by decide) (by decide) (by decide) (by decide) (by decide)
      · exact body 1 3 36 (by decide) (by decide) (by decide) (by decide) (by decide)
      · exact body 2 1 6 (by decide) (by decide) (by decide) (by decide) (by decide)
      · exact body 2 2 12 (by decide) (by decide) (by decide) (by decide) (by decide)
      · exact body 2 3 18 (by decide) (by decide) (by decide) (by decide) (by decide)
      · exact body 3 1 4 (by decide) (by decide) (by decide) (by decide) (by decide)
      · exact body 3 2 8 (by decide) (by decide) (by decide) (by decide) (by decide)
      · exact body 3 3 12 (by decide) (by decide) (by decide) (by decide) (by decide)
      · exact body 4 1 3 (by decide) (by decide) (by decide) (by decide) (by decide)
      · exact body 4 2 6 (by decide) (by decide) (by decide) (by decide) (by decide)
      · exact body 4 3 9 (by decide) (by decide) (by decide) (by decide) (by decide)
    generalize (1 + (x : Rat)) / (1 + (y : Rat)) = tm at *
    simp [cE, vE, bE, rE, fE, mE, bin, nilA, consA, bT, andT, orT, notT, tupE, lstE, allV, allM, okB, intR, addR, asL, asT, asD, eqR, eqD_nn, eqD_bb, eqD_ii, eqD_ss, eqD_tt, eqD_ll, eqD_bi, eqD_ib, eqD_nt, eqD_tn, eqD_it, eqD_ti, eqD_ni, eqD_in, eqDs_nn, eqDs_cc, eqDs_nc, eqDs_cn, cmpD, cmpDs, depD, depDs, isNon, isNR, chainE, tvE, andV, orV, notV, ifE, slEV, ixR, callV, lenC, isiC, tyN, pick, retEV, callP, argD, argDs, seqS, bkS, ctS, exprS, retS, retNS, ifS, evSl, setS, SK.loop, gN, gNil, gCons, gT, asgS, parS, defF, defK, raiseS, absC, divmodC, mmC, stL, itL, itT, itR1, itR2, itE, shL, itZ, itV, forS, evD, methL, appL, clrL, popL, insL, trL, extL, setixS, argS, argSs, callI, callN, hereA, nextA, negE, itS, wipeR, compE, compD, yesT, seqD, listC, tupC, numd, zipd, nxS, frSl, retSl, retSls, retOk, retOks, tryAsS, tryOnlyS, lookB, kinE, xfE, lookF, frzE, isTR, isTB, allC, blsD, gU, raiseIS, at0, at1, at2, at3, inR, cmpO, heldR, appT, lrE, sortC, intC, intsD, slE, intO, cutD, eqXR, slX, addT, repT, compX, compDx, neYR, lrevE, wD, F__law_minus, F_minus, F__law_over, F_two, Rat.den_nz, nd]
    by_cases hc1 : at_ ≤ (i : Int)
    · by_cases hc2 : (i : Int) < at_ + (2 + k)
      · simp [hc1, hc2, cE, vE, bE, rE, fE, mE, bin, nilA, consA, bT, andT, orT, notT, tupE, lstE, allV, allM, okB, intR, addR, asL, asT, asD, eqR, eqD_nn, eqD_bb, eqD_ii, eqD_ss, eqD_tt, eqD_ll, eqD_bi, eqD_ib, eqD_nt, eqD_tn, eqD_it, eqD_ti, eqD_ni, eqD_in, eqDs_nn, eqDs_cc, eqDs_nc, eqDs_cn, cmpD, cmpDs, depD, depDs, isNon, isNR, chainE, tvE, andV, orV, notV, ifE, slEV, ixR, callV, lenC, isiC, tyN, pick, retEV, callP, argD, argDs, seqS, bkS, ctS, exprS, retS, retNS, ifS, evSl, setS, SK.loop, gN, gNil, gCons, gT, asgS, parS, defF, defK, raiseS, absC, divmodC, mmC, stL, itL, itT, itR1, itR2, itE, shL, itZ, itV, forS, evD, methL, appL, clrL, popL, insL, trL, extL, setixS, argS, argSs, callI, callN, hereA, nextA, negE, itS, wipeR, compE, compD, yesT, seqD, listC, tupC, numd, zipd, nxS, frSl, retSl, retSls, retOk, retOks, tryAsS, tryOnlyS, lookB, kinE, xfE, lookF, frzE, isTR, isTB, allC, blsD, gU, raiseIS, at0, at1, at2, at3, inR, cmpO, heldR, appT, lrE, sortC, intC, intsD, slE, intO, cutD, eqXR, slX, addT, repT, compX, compDx, neYR, lrevE, wD, F__law_minus, F_minus, F__law_over, F_two, Rat.den_nz, nd, tm0]
        refine ⟨by (repeat' with_reducible apply And.intro) <;> try first | assumption | exact Sm.n (by assumption) | exact Sm.d (by assumption) | exact Si.mono (by assumption) (by decide) | exact dpos _ | exact Rat.nz _ | exact Rat.den_nz _, by (repeat' with_reducible apply And.intro) <;> try first | assumption | exact Sm.n (by assumption) | exact Sm.d (by assumption) | exact Si.mono (by assumption) (by decide) | exact dpos _ | exact Rat.nz _ | exact Rat.den_nz _, by omega, fin _ _ _ _ qu⟩
      · simp [hc1, hc2, cE, vE, bE, rE, fE, mE, bin, nilA, consA, bT, andT, orT, notT, tupE, lstE, allV, allM, okB, intR, addR, asL, asT, asD, eqR, eqD_nn, eqD_bb, eqD_ii, eqD_ss, eqD_tt, eqD_ll, eqD_bi, eqD_ib, eqD_nt, eqD_tn, eqD_it, eqD_ti, eqD_ni, eqD_in, eqDs_nn, eqDs_cc, eqDs_nc, eqDs_cn, cmpD, cmpDs, depD, depDs, isNon, isNR, chainE, tvE, andV, orV, notV, ifE, slEV, ixR, callV, lenC, isiC, tyN, pick, retEV, callP, argD, argDs, seqS, bkS, ctS, exprS, retS, retNS, ifS, evSl, setS, SK.loop, gN, gNil, gCons, gT, asgS, parS, defF, defK, raiseS, absC, divmodC, mmC, stL, itL, itT, itR1, itR2, itE, shL, itZ, itV, forS, evD, methL, appL, clrL, popL, insL, trL, extL, setixS, argS, argSs, callI, callN, hereA, nextA, negE, itS, wipeR, compE, compD, yesT, seqD, listC, tupC, numd, zipd, nxS, frSl, retSl, retSls, retOk, retOks, tryAsS, tryOnlyS, lookB, kinE, xfE, lookF, frzE, isTR, isTB, allC, blsD, gU, raiseIS, at0, at1, at2, at3, inR, cmpO, heldR, appT, lrE, sortC, intC, intsD, slE, intO, cutD, eqXR, slX, addT, repT, compX, compDx, neYR, lrevE]
        exact ⟨by omega, fin _ _ _ _ cb.u⟩
    · simp [hc1, cE, vE, bE, rE, fE, mE, bin, nilA, consA, bT, andT, orT, notT, tupE, lstE, allV, allM, okB, intR, addR, asL, asT, asD, eqR, eqD_nn, eqD_bb, eqD_ii, eqD_ss, eqD_tt, eqD_ll, eqD_bi, eqD_ib, eqD_nt, eqD_tn, eqD_it, eqD_ti, eqD_ni, eqD_in, eqDs_nn, eqDs_cc, eqDs_nc, eqDs_cn, cmpD, cmpDs, depD, depDs, isNon, isNR, chainE, tvE, andV, orV, notV, ifE, slEV, ixR, callV, lenC, isiC, tyN, pick, retEV, callP, argD, argDs, seqS, bkS, ctS, exprS, retS, retNS, ifS, evSl, setS, SK.loop, gN, gNil, gCons, gT, asgS, parS, defF, defK, raiseS, absC, divmodC, mmC, stL, itL, itT, itR1, itR2, itE, shL, itZ, itV, forS, evD, methL, appL, clrL, popL, insL, trL, extL, setixS, argS, argSs, callI, callN, hereA, nextA, negE, itS, wipeR, compE, compD, yesT, seqD, listC, tupC, numd, zipd, nxS, frSl, retSl, retSls, retOk, retOks, tryAsS, tryOnlyS, lookB, kinE, xfE, lookF, frzE, isTR, isTB, allC, blsD, gU, raiseIS, at0, at1, at2, at3, inR, cmpO, heldR, appT, lrE, sortC, intC, intsD, slE, intO, cutD, eqXR, slX, addT, repT, compX, compDx, neYR, lrevE]
      exact ⟨by omega, fin _ _ _ _ cb.u⟩
  · rintro ρ ⟨x7, x8, x9, out, rfl, hp, hu⟩
    have hnl : (numd 0 (bs.map wD)).length = bs.length := numd_len (bs.map wD) 0 |>.trans (by simp)
    rw [hnl, List.take_length] at hp
    have hol : out.length = bs.length := by simpa using congrArg List.length hp
    have ok' : CWorld out := by
      refine ⟨fun z => by rw [z] at hol; simp at hol; omega, by omega, hu, ?_⟩
      have h1 : (bs.map Bw.p).Pairwise (· < ·) := List.pairwise_map.mpr cw.up
      rw [← hp] at h1
      exact List.pairwise_map.mp h1
    simp [sf__law_led_together_r1, cE, vE, bE, rE, fE, mE, bin, nilA, consA, bT, andT, orT, notT, tupE, lstE, allV, allM, okB, intR, addR, asL, asT, asD, eqR, eqD_nn, eqD_bb, eqD_ii, eqD_ss, eqD_tt, eqD_ll, eqD_bi, eqD_ib, eqD_nt, eqD_tn, eqD_it, eqD_ti, eqD_ni, eqD_in, eqDs_nn, eqDs_cc, eqDs_nc, eqDs_cn, cmpD, cmpDs, depD, depDs, isNon, isNR, chainE, tvE, andV, orV, notV, ifE, slEV, ixR, callV, lenC, isiC, tyN, pick, retEV, callP, argD, argDs, seqS, bkS, ctS, exprS, retS, retNS, ifS, evSl, setS, SK.loop, gN, gNil, gCons, gT, asgS, parS, defF, defK, raiseS, absC, divmodC, mmC, stL, itL, itT, itR1, itR2, itE, shL, itZ, itV, forS, evD, methL, appL, clrL, popL, insL, trL, extL, setixS, argS, argSs, callI, callN, hereA, nextA, negE, itS, wipeR, compE, compD, yesT, seqD, listC, tupC, numd, zipd, nxS, frSl, retSl, retSls, retOk, retOks, tryAsS, tryOnlyS, lookB, kinE, xfE, lookF, frzE, isTR, isTB, allC, blsD, gU, raiseIS, at0, at1, at2, at3, inR, cmpO, heldR, appT, lrE, sortC, intC, intsD, slE, intO, cutD, eqXR, slX, addT, repT, compX, compDx, neYR, lrevE]
    exact ⟨retOks_w out, h out n3 ok'⟩
theorem to__law_world : ∀ ss K E, F__law_world ss K E → defF [true] 5 sf__law_world ss K E := fun ss K E h => by
  unfold F__law_world at h
  split at h
  · rename_i n
    simp [sf__law_world, cE, vE, bE, rE, fE, mE, bin, nilA, consA, bT, andT, orT, notT, tupE, lstE, allV, allM, okB, intR, addR, asL, asT, asD, eqR, eqD_nn, eqD_bb, eqD_ii, eqD_ss, eqD_tt, eqD_ll, eqD_bi, eqD_ib, eqD_nt, eqD_tn, eqD_it, eqD_ti, eqD_ni, eqD_in, eqDs_nn, eqDs_cc, eqDs_nc, eqDs_cn, cmpD, cmpDs, depD, depDs, isNon, isNR, chainE, tvE, andV, orV, notV, ifE, slEV, ixR, callV, lenC, isiC, tyN, pick, retEV, callP, argD, argDs, seqS, bkS, ctS, exprS, retS, retNS, ifS, evSl, setS, SK.loop, gN, gNil, gCons, gT, asgS, parS, defF, defK, raiseS, absC, divmodC, mmC, stL, itL, itT, itR1, itR2, itE, shL, itZ, itV, forS, evD, methL, appL, clrL, popL, insL, trL, extL, setixS, argS, argSs, callI, callN, hereA, nextA, negE, itS, wipeR, compE, compD, yesT, seqD, listC, tupC, numd, zipd, nxS, frSl, retSl, retSls, retOk, retOks, tryAsS, tryOnlyS, lookB, kinE, xfE, lookF, frzE, isTR, isTB, allC, blsD, gU, raiseIS, at0, at1, at2, at3, inR, cmpO, heldR, appT, lrE, sortC, intC, intsD, slE, intO, cutD, eqXR, slX, addT, repT, compX, compDx, neYR, lrevE, F__law_take, F__law_small, F__law_fit]
    refine fun q hq => ⟨by unfold Si; decide, fun y n2 y0 y1 => ?_⟩
    obtain ⟨N, hN, hn⟩ := pick4 (a := 4) (b := 4) (c := 6) (d := 12) y0 y1
    rw [hN]
    refine ⟨⟨by omega, by unfold Si; omega⟩, fun z n3 z0 z1 => ⟨by omega, ?_⟩⟩
    refine loop_inv (fun j ρ => ∃ n' q bs x3 x4, ρ = [.l [.int n'], .v (frD q), .l (bs.map wD), x3, x4] ∧ Fq 6 (72 + 54 * j) q ∧ bs.length = j ∧ (∀ b ∈ bs, COk b ∧ Fq 6 1000 b.p ∧ Fq 6 72 b.u ∧ b.p < q) ∧ bs.Pairwise fun a b => a.p < b.p) ⟨n3, q, [], .no, .no, rfl, (small_fq hq).mono (by omega), rfl, by simp, .nil⟩ ?_ ?_
    · rintro j e ρ K2 he ⟨n', q, bs, x3, x4, rfl, fqq, hl, hbs, hp⟩ next
      obtain ⟨hj, rfl⟩ := rngD_get he
      have hj12 : j ≤ 12 := by omega
      simp [cE, vE, bE, rE, fE, mE, bin, nilA, consA, bT, andT, orT, notT, tupE, lstE, allV, allM, okB, intR, addR, asL, asT, asD, eqR, eqD_nn, eqD_bb, eqD_ii, eqD_ss, eqD_tt, eqD_ll, eqD_bi, eqD_ib, eqD_nt, eqD_tn, eqD_it, eqD_ti, eqD_ni, eqD_in, eqDs_nn, eqDs_cc, eqDs_nc, eqDs_cn, cmpD, cmpDs, depD, depDs, isNon, isNR, chainE, tvE, andV, orV, notV, ifE, slEV, ixR, callV, lenC, isiC, tyN, pick, retEV, callP, argD, argDs, seqS, bkS, ctS, exprS, retS, retNS, ifS, evSl, setS, SK.loop, gN, gNil, gCons, gT, asgS, parS, defF, defK, raiseS, absC, divmodC, mmC, stL, itL, itT, itR1, itR2, itE, shL, itZ, itV, forS, evD, methL, appL, clrL, popL, insL, trL, extL, setixS, argS, argSs, callI, callN, hereA, nextA, negE, itS, wipeR, compE, compD, yesT, seqD, listC, tupC, numd, zipd, nxS, frSl, retSl, retSls, retOk, retOks, tryAsS, tryOnlyS, lookB, kinE, xfE, lookF, frzE, isTR, isTB, allC, blsD, gU, raiseIS, at0, at1, at2, at3, inR, cmpO, heldR, appT, lrE, sortC, intC, intsD, slE, intO, cutD, eqXR, slX, addT, repT, compX, compDx, neYR, lrevE, F__law_take, F__law_small, F__law_fit, F__law_plus, F_plus, F_two, Rat.den_nz, nd]
      refine ⟨by unfold Si; decide, fun a n4 a0 a1 => ?_⟩
      obtain ⟨W, hW, hw⟩ := pick4 (a := 3) (b := 3) (c := 5) (d := 80) a0 a1
      rw [hW]
      refine ⟨⟨by omega, by unfold Si; omega⟩, fun w w0 w1 u hu => ⟨by omega, by unfold Si; decide, fun x x0 x1 => ⟨by unfold Si; decide, fun y n5 y0 y1 => ?_⟩⟩⟩
      have hc3 : (1 + y = 1 ∨ 1 + y = 2 ∨ 1 + y = 3) := by omega
      obtain ⟨k2, ek, hk⟩ := sixth (x := 1 + x) hc3
      rw [Rat.intCast_add, Rat.intCast_add] at ek
      have ek' : (1 + (x : Rat)) / (1 + (y : Rat)) = (k2 : Rat) / ((6 : Int) : Rat) := ek
      have q2 : Fq 6 54 ((1 + (x : Rat)) / (1 + (y : Rat))) := ⟨k2, ek', by omega, by omega⟩
      have s1 := fq_sm (fqq.mono (M := 2000) (by omega)) 12 (by decide) (by unfold Si; decide) (by decide) (by decide)
      have s2 := fq_sm q2 12 (by decide) (by unfold Si; decide) (by decide) (by decide)
      have tp := frac_pos x0 y0
      refine ⟨⟨by omega, by unfold Si; omega⟩, by (repeat' with_reducible apply And.intro) <;> try first | assumption | exact Sm.n (by assumption) | exact Sm.d (by assumption) | exact Si.mono (by assumption) (by decide) | exact dpos _ | exact Rat.nz _ | exact Rat.den_nz _, next _ ⟨n5, _, bs ++ [⟨q, u, 1 + w⟩], .v (.int (j : Nat)), .v (.int (1 + w)), by simp [wD], (fqq.add q2).mono (by push_cast; omega), by simp [hl], fun b hb => ?_, ?_⟩⟩
      · rcases List.mem_append.mp hb with hb | hb
        · obtain ⟨h1, h2, h3, h4⟩ := hbs b hb
          exact ⟨h1, h2, h3, by grind⟩
        · rw [List.mem_singleton.mp hb]
          have u72 : Fq 72 300000 u := by
            obtain ⟨l, el, l0, l1⟩ := hu
            exact ⟨12 * l, by rw [el, Rat.intCast_mul]; show (l : Rat) / 6 = 12 * (l : Rat) / 72; grind, by omega, by omega⟩
          exact ⟨⟨fqq.mono (by omega), u72, by dsimp only; omega, by dsimp only; omega⟩, fqq.mono (by omega), small_fq hu, by show q < _; grind⟩
      · refine List.pairwise_append.mpr ⟨hp, List.pairwise_singleton _ _, fun a ha b hb => ?_⟩
        rw [List.mem_singleton.mp hb]
        exact (hbs a ha).2.2.2
    · rintro ρ ⟨n', q, bs, x3, x4, rfl, fqq, hl, hbs, hp⟩
      rw [rngD_len] at hl
      have hl12 : bs.length ≤ 12 := by omega
      have cw : CWorld bs := ⟨fun z => by rw [z] at hl; simp at hl; omega, hl12, fun b hb => (hbs b hb).1, hp⟩
      simp [sf__law_world_r1, cE, vE, bE, rE, fE, mE, bin, nilA, consA, bT, andT, orT, notT, tupE, lstE, allV, allM, okB, intR, addR, asL, asT, asD, eqR, eqD_nn, eqD_bb, eqD_ii, eqD_ss, eqD_tt, eqD_ll, eqD_bi, eqD_ib, eqD_nt, eqD_tn, eqD_it, eqD_ti, eqD_ni, eqD_in, eqDs_nn, eqDs_cc, eqDs_nc, eqDs_cn, cmpD, cmpDs, depD, depDs, isNon, isNR, chainE, tvE, andV, orV, notV, ifE, slEV, ixR, callV, lenC, isiC, tyN, pick, retEV, callP, argD, argDs, seqS, bkS, ctS, exprS, retS, retNS, ifS, evSl, setS, SK.loop, gN, gNil, gCons, gT, asgS, parS, defF, defK, raiseS, absC, divmodC, mmC, stL, itL, itT, itR1, itR2, itE, shL, itZ, itV, forS, evD, methL, appL, clrL, popL, insL, trL, extL, setixS, argS, argSs, callI, callN, hereA, nextA, negE, itS, wipeR, compE, compD, yesT, seqD, listC, tupC, numd, zipd, nxS, frSl, retSl, retSls, retOk, retOks, tryAsS, tryOnlyS, lookB, kinE, xfE, lookF, frzE, isTR, isTB, allC, blsD, gU, raiseIS, at0, at1, at2, at3, inR, cmpO, heldR, appT, lrE, sortC, intC, intsD, slE, intO, cutD, eqXR, slX, addT, repT, compX, compDx, neYR, lrevE, F__law_take]
      refine ⟨by unfold Si; decide, fun d n2 d0 d1 => ?_⟩
      split
      · refine ⟨n2, true, bs, rfl, ⟨cw, fun b hb => ⟨(hbs b hb).2.1, (hbs b hb).2.2.1⟩⟩, fun bs' n3 ok' => ?_⟩
        simp
        exact ⟨⟨retOks_w bs', rfl⟩, h bs' n3 ok'⟩
      · exact ⟨retOks_w bs, h bs n2 cw⟩
  · exact h.elim
end VS
set_option Elab.async false
set_option linter.all false
set_option maxRecDepth 100000
set_option maxHeartbeats 4000000
/-! VM95: VM18 for bodies of any sizes (begun as VM18). Own work. -/
namespace VS
open PySem PySem.Spec PyProof.Rows
abbrev Gp := Nat × List Bw
def gM : List Bw → Int
  | [] => 0
  | b :: r => b.m + gM r
def gV : List Bw → Rat
  | [] => 0
  | b :: r => (b.m : Rat) * b.u + gV r
def gX : List Bw → Rat
  | [] => 0
  | b :: r => (b.m : Rat) * b.p + gX r
theorem gM_app : ∀ (g h : List Bw), gM (g ++ h) = gM g + gM h
  | [], h => by simp [gM]
  | b :: r, h => by simp [gM, gM_app r h]; omega
theorem gV_app : ∀ (g h : List Bw), gV (g ++ h) = gV g + gV h
  | [], h => by simp [gV]; grind
  | b :: r, h => by simp [gV, gV_app r h]; grind
theorem gX_app : ∀ (g h : List Bw), gX (g ++ h) = gX g + gX h
  | [], h => by simp [gX]; grind
  | b :: r, h => by simp [gX, gX_app r h]; grind
/-- the speed of what goes together, and its place at a moment -/
def gu (g : List Bw) : Rat := gV g / (gM g : Rat)
def gp (g : List Bw) (t : Rat) : Rat := (gX g + gV g * t) / (gM g : Rat)
def PosG (g : List Bw) : Prop := ∀ b ∈ g, 1 ≤ b.m
theorem gM_ge : ∀ {g : List Bw}, PosG g → (g.length : Int) ≤ gM g
  | [], _ => by simp [gM]
  | b :: r, h => by
    have hb := h b List.mem_cons_self
    have ih := gM_ge (g := r) fun c hc => h c (List.mem_cons_of_mem _ hc)
    simp only [gM, List.length_cons]
    push_cast
    omega
theorem gM_pos {g : List Bw} (h : PosG g) (ne : g ≠ []) : 0 < gM g := by
  have := gM_ge h
  have : 0 < g.length := List.length_pos_iff.mpr ne
  omega
theorem gMq {g : List Bw} (h : PosG g) (ne : g ≠ []) : (0 : Rat) < (gM g : Rat) := by exact_mod_cast gM_pos h ne
/-- bodies of which a clump may be -/
structure GOk (g : List Bw) : Prop where
  ne : g ≠ []
  le : g.length ≤ 12
  ok : PosG g
  m : gM g ≤ 960
  sa : Sm 270 (gX g / (gM g : Rat))
  su : Sm 31 (gu g)
theorem gu_sm {g : List Bw} (h : GOk g) : Sm 31 (gu g) := h.su
theorem ga_sm {g : List Bw} (h : GOk g) : Sm 270 (gX g / (gM g : Rat)) := h.sa
theorem gp_split {g : List Bw} {t : Rat} : gp g t = gX g / (gM g : Rat) + gu g * t := by
  unfold gp gu
  rw [Rat.div_def, Rat.div_def, Rat.div_def]
  grind
theorem gp_sm {g : List Bw} {t : Rat} {n : Nat} (h : GOk g) (ht : Sm n t) : Sm (n + 302) (gp g t) := by
  rw [gp_split]
  exact ((ga_sm h).add ((gu_sm h).mul ht)).mono (by omega)
theorem gp_on {g : List Bw} {t d : Rat} : gp g (t + d) = gp g t + gu g * d := by
  rw [gp_split, gp_split]
  grind
/-- when two come to one place -/
def mt (g h : List Bw) : Rat := (gX h / (gM h : Rat) - gX g / (gM g : Rat)) / (gu g - gu h)
theorem mt_sm {g h : List Bw} (hg : GOk g) (hh : GOk h) (lt : gu h < gu g) : Sm 604 (mt g h) := by
  exact (((ga_sm hh).sub (ga_sm hg)).quo ((gu_sm hg).sub (gu_sm hh)) (by grind)).mono (by decide)
theorem mt_eq {g h : List Bw} {t : Rat} (lt : gu h < gu g) : t + (gp h t - gp g t) / (gu g - gu h) = mt g h := by
  have e : gu g - gu h ≠ 0 := by grind
  unfold mt
  rw [gp_split, gp_split]
  grind
theorem mt_at {g h : List Bw} (lt : gu h < gu g) : gp g (mt g h) = gp h (mt g h) := by
  have e : gu g - gu h ≠ 0 := by grind
  rw [gp_split, gp_split]
  unfold mt
  grind
theorem gp_join {g h : List Bw} {t : Rat} (hg : GOk g) (hh : GOk h) (e : gp g t = gp h t) : gp (g ++ h) t = gp g t := by
  have a := gMq hg.ok hg.ne
  have b := gMq hh.ok hh.ne
  unfold gp at e ⊢
  rw [gM_app, gV_app, gX_app, Rat.intCast_add]
  have a' : (gM g : Rat) ≠ 0 := by grind
  have b' : (gM h : Rat) ≠ 0 := by grind
  have c' : (gM g : Rat) + (gM h : Rat) ≠ 0 := by grind
  have e2 : (gX g + gV g * t) * (gM h : Rat) = (gX h + gV h * t) * (gM g : Rat) := by
    have := e
    grind
  rw [Rat.div_def, Rat.div_def]
  grind
theorem gu_join {g h : List Bw} : gu (g ++ h) = (gV g + gV h) / ((gM g + gM h : Int) : Rat) := by
  unfold gu
  rw [gM_app, gV_app]
/-! what sticks -/
def tms (t : Rat) : List Gp → List Rat
  | x :: y :: r => (if gu y.2 < gu x.2 then [(gp y.2 t - gp x.2 t) / (gu x.2 - gu y.2)] else []) ++ tms t (y :: r)
  | _ => []
def least : Option Rat → List Rat → Option Rat
  | a, [] => a
  | none, q :: r => least (some q) r
  | some a, q :: r => least (if q < a then some q else some a) r
def nxt (t : Rat) (gs : List Gp) : Option Rat := (least none (tms t gs)).map (t + ·)
def mgo (t : Rat) : Gp → List Gp → List Gp
  | y, [] => [y]
  | y, x :: r => if gp y.2 t = gp x.2 t then mgo t (y.1, y.2 ++ x.2) r else y :: mgo t x r
def mrg (t : Rat) : List Gp → List Gp
  | [] => []
  | y :: r => mgo t y r
def Chn (R : Gp → Gp → Prop) : List Gp → Prop
  | x :: y :: r => R x y ∧ Chn R (y :: r)
  | _ => True
theorem Chn.imp {R S : Gp → Gp → Prop} (h : ∀ x y, R x y → S x y) : ∀ {l : List Gp}, Chn R l → Chn S l
  | [], _ => trivial
  | [_], _ => trivial
  | x :: y :: r, c => ⟨h x y c.1, Chn.imp h (l := y :: r) c.2⟩
def AdjEq (t : Rat) : List Gp → Prop
  | x :: y :: r => gp x.2 t = gp y.2 t ∨ AdjEq t (y :: r)
  | _ => False
def lt_at (t : Rat) (x y : Gp) : Prop := gp x.2 t < gp y.2 t
def le_at (t : Rat) (x y : Gp) : Prop := gp x.2 t ≤ gp y.2 t
def ct_ (x y : Gp) : Prop := y.1 = x.1 + x.2.length
theorem least_spec : ∀ (qs : List Rat) (a : Option Rat) (m : Rat), least a qs = some m → (∀ q ∈ qs, m ≤ q) ∧ (∀ a0, a = some a0 → m ≤ a0) ∧ (m ∈ qs ∨ a = some m)
  | [], a, m, h => by
    have h' : a = some m := h
    exact ⟨by simp, fun a0 e => by rw [h'] at e; cases e; exact Rat.le_refl, .inr h'⟩
  | q :: r, none, m, h => by
    obtain ⟨h1, h2, h3⟩ := least_spec r (some q) m h
    refine ⟨fun x hx => ?_, (fun _ e => nomatch e), ?_⟩
    · rcases List.mem_cons.mp hx with rfl | hx
      · exact h2 _ rfl
      · exact h1 x hx
    · rcases h3 with h3 | h3
      · exact .inl (List.mem_cons_of_mem _ h3)
      · cases h3; exact .inl List.mem_cons_self
  | q :: r, some a, m, h => by
    have h' : least (if q < a then some q else some a) r = some m := h
    by_cases c : q < a
    · rw [if_pos c] at h'
      obtain ⟨h1, h2, h3⟩ := least_spec r (some q) m h'
      have hq := h2 _ rfl
      refine ⟨fun x hx => ?_, fun a0 e => by cases e; grind, ?_⟩
      · rcases List.mem_cons.mp hx with rfl | hx
        · exact hq
        · exact h1 x hx
      · rcases h3 with h3 | h3
        · exact .inl (List.mem_cons_of_mem _ h3)
        · cases h3; exact .inl List.mem_cons_self
    · rw [if_neg c] at h'
      obtain ⟨h1, h2, h3⟩ := least_spec r (some a) m h'
      have ha := h2 _ rfl
      refine ⟨fun x hx => ?_, h2, ?_⟩
      · rcases List.mem_cons.mp hx with rfl | hx
        · grind
        · exact h1 x hx
      · rcases h3 with h3 | h3
        · exact .inl (List.mem_cons_of_mem _ h3)
        · exact .inr h3
theorem tms_eq {t m : Rat} : ∀ {gs : List Gp}, m ∈ tms t gs → AdjEq (t + m) gs
  | [], h => by simp [tms] at h
  | [_], h => by simp [tms] at h
  | x :: y :: r, h => by
    have h' : m ∈ (if gu y.2 < gu x.2 then [(gp y.2 t - gp x.2 t) / (gu x.2 - gu y.2)] else []) ++ tms t (y :: r) := h
    rcases List.mem_append.mp h' with z | z
    · split at z
      · rename_i c
        rw [List.mem_singleton.mp z, mt_eq c]
        exact .inl (mt_at c)
      · simp at z
    · exact .inr (tms_eq z)
theorem tms_pos {t : Rat} : ∀ {gs : List Gp}, Chn (lt_at t) gs → ∀ q ∈ tms t gs, 0 < q
  | [], _, q, h => by simp [tms] at h
  | [_], _, q, h => by simp [tms] at h
  | x :: y :: r, c, q, h => by
    have h' : q ∈ (if gu y.2 < gu x.2 then [(gp y.2 t - gp x.2 t) / (gu x.2 - gu y.2)] else []) ++ tms t (y :: r) := h
    rcases List.mem_append.mp h' with z | z
    · split at z
      · rename_i k
        have a : gp x.2 t < gp y.2 t := c.1
        rw [List.mem_singleton.mp z, Rat.div_def]
        exact Rat.mul_pos (by grind) (Rat.inv_pos.mpr (by grind))
      · simp at z
    · exact tms_pos c.2 q z
theorem chn_on {t m : Rat} (m0 : 0 ≤ m) : ∀ {gs : List Gp}, Chn (lt_at t) gs → (∀ q ∈ tms t gs, m ≤ q) → Chn (le_at (t + m)) gs
  | [], _, _ => trivial
  | [_], _, _ => trivial
  | x :: y :: r, c, h => by
    have h' : ∀ q ∈ (if gu y.2 < gu x.2 then [(gp y.2 t - gp x.2 t) / (gu x.2 - gu y.2)] else []) ++ tms t (y :: r), m ≤ q := h
    refine ⟨?_, chn_on m0 c.2 fun q hq => h' q (List.mem_append_right _ hq)⟩
    have a : gp x.2 t < gp y.2 t := c.1
    show gp x.2 (t + m) ≤ gp y.2 (t + m)
    rw [gp_on, gp_on]
    by_cases k : gu y.2 < gu x.2
    · have := h' _ (List.mem_append_left _ (by rw [if_pos k]; exact List.mem_singleton_self _))
      have d0 : 0 < gu x.2 - gu y.2 := by grind
      have e : (gp y.2 t - gp x.2 t) / (gu x.2 - gu y.2) * (gu x.2 - gu y.2) = gp y.2 t - gp x.2 t := by grind
      have l := Rat.mul_le_mul_of_nonneg_right this (Rat.le_of_lt d0)
      grind
    · have : 0 ≤ (gu y.2 - gu x.2) * m := Rat.mul_nonneg (by grind) m0
      grind
theorem mgo_len {t : Rat} : ∀ (r : List Gp) (y : Gp), (mgo t y r).length ≤ r.length + 1
  | [], y => by simp [mgo]
  | x :: r, y => by
    unfold mgo
    split
    · have := mgo_len (t := t) r (y.1, y.2 ++ x.2); simp; omega
    · have := mgo_len (t := t) r x; simp; omega
theorem mgo_less {t : Rat} : ∀ (r : List Gp) (y : Gp), AdjEq t (y :: r) → (mgo t y r).length < r.length + 1
  | [], y, h => h.elim
  | x :: r, y, h => by
    unfold mgo
    split
    · have := mgo_len (t := t) r (y.1, y.2 ++ x.2); simp; omega
    · rename_i c
      rcases h with h | h
      · exact absurd h c
      · have := mgo_less r x h; simp; omega
theorem mgo_flat {t : Rat} : ∀ (r : List Gp) (y : Gp), (mgo t y r).flatMap (·.2) = y.2 ++ r.flatMap (·.2)
  | [], y => by simp [mgo]
  | x :: r, y => by
    unfold mgo
    split
    · rw [mgo_flat r]; simp
    · rw [List.flatMap_cons, mgo_flat r]; simp
theorem mgo_ne {t : Rat} : ∀ (r : List Gp) (y : Gp), y.2 ≠ [] → (∀ x ∈ r, x.2 ≠ []) → ∀ x ∈ mgo t y r, x.2 ≠ []
  | [], y, h, _, x, hx => by
    have : x = y := by simpa [mgo] using hx
    rw [this]; exact h
  | z :: r, y, h, hr, x, hx => by
    unfold mgo at hx
    have hz := hr z List.mem_cons_self
    have hr' := fun w hw => hr w (List.mem_cons_of_mem _ hw)
    split at hx
    · exact mgo_ne r (y.1, y.2 ++ z.2) (by simp [h]) hr' x hx
    · rcases List.mem_cons.mp hx with rfl | hx
      · exact h
      · exact mgo_ne r z hz hr' x hx
/-- a row of bodies of which clumps may be -/
structure SubOk (bs : List Bw) : Prop where
  le : bs.length ≤ 12
  pos : PosG bs
  g : ∀ a g b, bs = a ++ (g ++ b) → g ≠ [] → GOk g
/-- all the bodies of a row of groups -/
def RowOk (gs : List Gp) : Prop := (∀ x ∈ gs, x.2 ≠ []) ∧ SubOk (gs.flatMap (·.2))
theorem RowOk.g {gs : List Gp} (h : RowOk gs) {x : Gp} (hx : x ∈ gs) : GOk x.2 := by
  obtain ⟨a, b, rfl⟩ := List.append_of_mem hx
  exact h.2.g (a.flatMap (·.2)) x.2 (b.flatMap (·.2)) (by simp) (h.1 x hx)
theorem SubOk.tail {g bs : List Bw} (h : SubOk (g ++ bs)) : SubOk bs :=
  ⟨by have := h.le; rw [List.length_append] at this; omega, fun b hb => h.pos b (List.mem_append_right _ hb), fun a x b e ne => h.g (g ++ a) x b (by rw [e, List.append_assoc]) ne⟩
theorem RowOk.tail {x : Gp} {gs : List Gp} (h : RowOk (x :: gs)) : RowOk gs := ⟨fun y hy => h.1 y (List.mem_cons_of_mem _ hy), by have := h.2; rw [List.flatMap_cons] at this; exact this.tail⟩
theorem RowOk.join {y x : Gp} {r : List Gp} (h : RowOk (y :: x :: r)) : RowOk ((y.1, y.2 ++ x.2) :: r) := by
  refine ⟨fun z hz => ?_, by have := h.2; simpa using this⟩
  rcases List.mem_cons.mp hz with rfl | hz
  · have h1 := h.1 y List.mem_cons_self
    simp [h1]
  · exact h.1 z (List.mem_cons_of_mem _ (List.mem_cons_of_mem _ hz))
theorem mgo_up {t : Rat} : ∀ (r : List Gp) (y : Gp), RowOk (y :: r) → Chn (le_at t) (y :: r) → Chn ct_ (y :: r) → Chn (lt_at t) (mgo t y r) ∧ Chn ct_ (mgo t y r) ∧ ∃ z w, mgo t y r = z :: w ∧ gp z.2 t = gp y.2 t ∧ z.1 = y.1
  | [], y, _, _, _ => ⟨trivial, trivial, y, [], rfl, rfl, rfl⟩
  | x :: r, y, ok, c, k => by
    unfold mgo
    split
    · rename_i e
      have gy := ok.g List.mem_cons_self
      have gx := ok.g (List.mem_cons_of_mem _ List.mem_cons_self)
      have ej := gp_join gy gx e
      have c' : Chn (le_at t) ((y.1, y.2 ++ x.2) :: r) := by
        cases r with
        | nil => trivial
        | cons w r =>
          refine ⟨?_, c.2.2⟩
          have : gp x.2 t ≤ gp w.2 t := c.2.1
          show gp (y.2 ++ x.2) t ≤ gp w.2 t
          rw [ej, e]
          exact this
      have k' : Chn ct_ ((y.1, y.2 ++ x.2) :: r) := by
        cases r with
        | nil => trivial
        | cons w r =>
          refine ⟨?_, k.2.2⟩
          have h1 : x.1 = y.1 + y.2.length := k.1
          have h2 : w.1 = x.1 + x.2.length := k.2.1
          show w.1 = y.1 + (y.2 ++ x.2).length
          rw [List.length_append]
          omega
      obtain ⟨h1, h2, z, w, h3, h4, h5⟩ := mgo_up r (y.1, y.2 ++ x.2) ok.join c' k'
      exact ⟨h1, h2, z, w, h3, h4.trans ej, h5⟩
    · rename_i e
      obtain ⟨h1, h2, z, w, h3, h4, h5⟩ := mgo_up r x ok.tail c.2 k.2
      have hl : gp y.2 t < gp x.2 t := by
        have : gp y.2 t ≤ gp x.2 t := c.1
        grind
      have hk : x.1 = y.1 + y.2.length := k.1
      rw [h3] at h1 h2 ⊢
      exact ⟨⟨by show gp y.2 t < gp z.2 t; rw [h4]; exact hl, h1⟩, ⟨by show z.1 = y.1 + y.2.length; rw [h5]; exact hk, h2⟩, y, z :: w, rfl, rfl, rfl⟩
/-- the clumps of a world at a moment -/
structure CI (bs : List Bw) (t : Rat) (gs : List Gp) : Prop where
  fl : gs.flatMap (·.2) = bs
  ok : RowOk gs
  ct : Chn ct_ gs
  up : Chn (lt_at t) gs
theorem CI.step {bs : List Bw} {t t' : Rat} {gs : List Gp} (c : CI bs t gs) (h : nxt t gs = some t') : t < t' ∧ CI bs t' (mrg t' gs) ∧ (mrg t' gs).length < gs.length := by
  unfold nxt at h
  obtain ⟨m, hm, rfl⟩ := Option.map_eq_some_iff.mp h
  obtain ⟨h1, _, h3⟩ := least_spec _ _ _ hm
  have hmem : m ∈ tms t gs := h3.resolve_right (fun z => nomatch z)
  have m0 := tms_pos c.up m hmem
  have le := chn_on (by grind) c.up h1
  have ae := tms_eq hmem
  refine ⟨by grind, ?_⟩
  cases gs with
  | nil => exact ae.elim
  | cons y r =>
    obtain ⟨u1, u2, _⟩ := mgo_up r y c.ok le c.ct
    have fl : (mgo (t + m) y r).flatMap (·.2) = bs := by rw [mgo_flat]; have := c.fl; simpa using this
    refine ⟨⟨fl, ⟨fun x hx => mgo_ne r y (c.ok.1 y List.mem_cons_self) (fun z hz => c.ok.1 z (List.mem_cons_of_mem _ hz)) x hx, ?_⟩, u2, u1⟩, by have := mgo_less r y ae; simpa [mrg] using this⟩
    have := c.ok.2
    rw [c.fl] at this
    show SubOk ((mgo (t + m) y r).flatMap (·.2))
    rw [fl]
    exact this
def sng : Nat → List Bw → List Gp
  | _, [] => []
  | i, b :: r => (i, [b]) :: sng (i + 1) r
theorem gp_one {b : Bw} {t : Rat} (h : 1 ≤ b.m) : gp [b] t = b.p + b.u * t := by
  have : (b.m : Rat) ≠ 0 := by
    exact_mod_cast (by omega : b.m ≠ 0)
  unfold gp
  simp [gX, gV, gM]
  grind
theorem gu_one {b : Bw} (h : 1 ≤ b.m) : gu [b] = b.u := by
  have : (b.m : Rat) ≠ 0 := by
    exact_mod_cast (by omega : b.m ≠ 0)
  unfold gu
  simp [gV, gM]
  grind
theorem sng_flat : ∀ (bs : List Bw) (i : Nat), (sng i bs).flatMap (·.2) = bs
  | [], _ => rfl
  | b :: r, i => by rw [sng, List.flatMap_cons, sng_flat r]; rfl
theorem sng_mem : ∀ (bs : List Bw) (i : Nat) (x : Gp), x ∈ sng i bs → ∃ b ∈ bs, x.2 = [b]
  | [], _, x, h => by simp [sng] at h
  | b :: r, i, x, h => by
    rw [sng] at h
    rcases List.mem_cons.mp h with rfl | h
    · exact ⟨b, List.mem_cons_self, rfl⟩
    · obtain ⟨c, hc, e⟩ := sng_mem r (i + 1) x h
      exact ⟨c, List.mem_cons_of_mem _ hc, e⟩
theorem sng_chn : ∀ (bs : List Bw) (i : Nat), PosG bs → (bs.Pairwise fun a b => a.p < b.p) → Chn ct_ (sng i bs) ∧ Chn (lt_at 0) (sng i bs)
  | [], _, _, _ => ⟨trivial, trivial⟩
  | [b], _, _, _ => ⟨trivial, trivial⟩
  | b :: c :: r, i, ok, up => by
    obtain ⟨u1, u2⟩ := List.pairwise_cons.mp up
    obtain ⟨h1, h2⟩ := sng_chn (c :: r) (i + 1) (fun x hx => ok x (List.mem_cons_of_mem _ hx)) u2
    refine ⟨⟨rfl, h1⟩, ⟨?_, h2⟩⟩
    show gp [b] 0 < gp [c] 0
    rw [gp_one (ok b List.mem_cons_self), gp_one (ok c (List.mem_cons_of_mem _ List.mem_cons_self))]
    have := u1 c List.mem_cons_self
    grind
structure GWorld (bs : List Bw) : Prop where
  ne : bs ≠ []
  sub : SubOk bs
  up : bs.Pairwise fun a b => a.p < b.p
theorem GWorld.le {bs : List Bw} (h : GWorld bs) : bs.length ≤ 12 := h.sub.le
theorem GWorld.ok {bs : List Bw} (h : GWorld bs) : PosG bs := h.sub.pos
theorem GWorld.ci {bs : List Bw} (h : GWorld bs) : CI bs 0 (sng 0 bs) := by
  obtain ⟨h1, h2⟩ := sng_chn bs 0 h.ok h.up
  refine ⟨sng_flat bs 0, ⟨fun x hx => ?_, by rw [sng_flat]; exact h.sub⟩, h1, h2⟩
  obtain ⟨b, hb, e⟩ := sng_mem bs 0 x hx
  rw [e]
  simp
end VS
set_option Elab.async false
set_option linter.all false
set_option maxRecDepth 100000
set_option maxHeartbeats 4000000
/-! VM96: VM19 for bodies of any sizes (begun as VM19). Own work. -/
namespace VS
open PySem PySem.Spec PyProof.Rows
open L2 (V Hp Cx WX)
def lastI (x : Gp) : Int := (x.1 : Int) + (x.2.length : Int) - 1
def clD (t : Rat) (x : Gp) : D := .tup [.int (x.1 : Nat), .int (lastI x), frD (gp x.2 t), frD (gu x.2), .int (gM x.2)]
def optQ : Option Rat → D
  | none => .non
  | some q => frD q
def fresh (gs : List Gp) (x : Gp) : Bool := !(gs.any fun y => ((y.1 : Nat) : Int) == ((x.1 : Nat) : Int) && lastI y == lastI x)
def F_time_to : FS := fun ss K _ => ∃ (p u q v : Rat), ss = [.v (.tup [frD p, frD u]), .v (.tup [frD q, frD v])] ∧ (Sm 1000 p ∧ Sm 1000 u ∧ Sm 1000 q ∧ Sm 1000 v) ∧ K (.v (if v < u then frD ((q - p) / (u - v)) else .non)) []
def F_least_of : FS := fun ss K _ => ∃ (st : Bool) (qs : List Rat), ss = [.v (.lst st (qs.map frD))] ∧ (qs.length ≤ 1000 ∧ ∀ q ∈ qs, Sm 3000 q) ∧ K (.v (optQ (least none qs))) []
def F_first_clumps : FS := fun ss K _ => ∃ (st : Bool) (bs : List Bw), ss = [.v (.lst st (bs.map wD))] ∧ (bs.length ≤ 1000 ∧ PosG bs) ∧ K (.m (.l ((sng 0 bs).map (clD 0)))) []
def F_led_on : FS := fun ss K _ => ∃ (st : Bool) (gs : List Gp) (t d : Rat), ss = [.v (.lst st (gs.map (clD t))), .v (frD d)] ∧ (RowOk gs ∧ gs.length ≤ 1000 ∧ Sm 610 t ∧ Sm 1221 d) ∧ K (.m (.l (gs.map (clD (t + d))))) []
def F_joined : FS := fun ss K _ => ∃ (t : Rat) (x y : Gp), ss = [.v (clD t x), .v (clD t y)] ∧ (GOk x.2 ∧ GOk y.2 ∧ ct_ x y ∧ gp x.2 t = gp y.2 t) ∧ K (.v (clD t (x.1, x.2 ++ y.2))) []
def F_times_on : FS := fun ss K _ => ∃ (st : Bool) (gs : List Gp) (t : Rat), ss = [.v (.lst st (gs.map (clD t)))] ∧ (RowOk gs ∧ gs.length ≤ 1000 ∧ Sm 610 t) ∧ K (.m (.l ((tms t gs).map frD))) []
def F_stuck_together : FS := fun ss K _ => ∃ (st : Bool) (gs : List Gp) (t : Rat), ss = [.v (.lst st (gs.map (clD t)))] ∧ (RowOk gs ∧ gs.length ≤ 1000 ∧ Chn ct_ gs) ∧ K (.m (.l ((mrg t gs).map (clD t)))) []
def F_next_moment : FS := fun ss K _ => ∃ (st : Bool) (gs : List Gp) (t : Rat), ss = [.v (.lst st (gs.map (clD t))), .v (frD t)] ∧ (RowOk gs ∧ gs.length ≤ 1000 ∧ Sm 610 t) ∧ K (.v (optQ (nxt t gs))) []
def F_stuck_on : FS := fun ss K _ => ∃ (st : Bool) (gs : List Gp) (t t' : Rat), ss = [.v (.lst st (gs.map (clD t))), .v (frD t), .v (frD t')] ∧ (RowOk gs ∧ gs.length ≤ 1000 ∧ Chn ct_ gs ∧ Sm 610 t ∧ Sm 610 t') ∧ K (.m (.t [.v (.lst true ((mrg t' gs).map (clD t'))), .l (((mrg t' gs).filter (fresh gs)).map (clD t'))])) []
def runG : Nat → Rat → List Gp → List (Rat × Gp)
  | 0, _, _ => []
  | n + 1, t, gs => match nxt t gs with
    | none => []
    | some t' => ((mrg t' gs).filter (fresh gs)).map (fun x => (t', x)) ++ runG n t' (mrg t' gs)
def rnD (x : Rat × Gp) : D := .tup [frD x.1, frD (gp x.2.2 x.1), .int (x.2.1 : Nat), .int (lastI x.2)]
def F_stuck_run : FS := fun ss K _ => ∃ (st : Bool) (bs : List Bw), ss = [.v (.lst st (bs.map wD))] ∧ GWorld bs ∧ K (.m (.l ((runG 13 0 (sng 0 bs)).map rnD))) []
def sf_time_to : SS := (seqS (ifS (notT (bT (callP F_under [] (consA true (bin true (vE 1) (cE (.int 1)) ixR) (consA true (bin true (vE 0) (cE (.int 1)) ixR) nilA))))) (retS (cE .non)) nxS)
  (retS (callP F_over [] (consA true (callP F_minus [] (consA true (bin true (vE 1) (cE (.int 0)) ixR) (consA true (bin true (vE 0) (cE (.int 0)) ixR) nilA))) (consA true (callP F_minus [] (consA true (bin true (vE 0) (cE (.int 1)) ixR) (consA true (bin true (vE 1) (cE (.int 1)) ixR) nilA))) nilA)))))
def sf_least_of : SS := (seqS (setS 1 true (cE .non))
  (seqS (forS (itS (vE 0)) (gN 2 true) (ifS (orT (bT (bin true (vE 1) (cE .non) (isNR false))) (bT (callP F_under [] (consA true (vE 2) (consA true (vE 1) nilA))))) (setS 1 true (vE 2)) nxS))
  (retS (vE 1))))
def sf_first_clumps : SS := (retS (compE [1, 2] (itE (consA true (vE 0) nilA)) (gT 2 (gCons (gN 1 true) (gCons (gN 2 true) gNil))) yesT (tupE (consA true (vE 1) (consA true (vE 1) (consA true (bin true (vE 2) (cE (.int 0)) ixR) (consA true (bin true (vE 2) (cE (.int 1)) ixR) (consA true (bin true (vE 2) (cE (.int 2)) ixR) nilA))))))))
def sf_led_on : SS := (seqS (setS 2 false (lstE nilA))
  (seqS (forS (itS (vE 0)) (gT 5 (gCons (gN 3 true) (gCons (gN 4 true) (gCons (gN 5 true) (gCons (gN 6 true) (gCons (gN 7 true) gNil)))))) (exprS (methL 2 appL (consA true (tupE (consA true (vE 3) (consA true (vE 4) (consA true (callP F_plus [] (consA true (vE 5) (consA true (callP F_times [] (consA true (vE 6) (consA true (vE 1) nilA))) nilA))) (consA true (vE 6) (consA true (vE 7) nilA)))))) nilA))))
  (retS (mE 2))))
def sf_joined : SS := (seqS (setS 2 true (bin true (bin true (vE 0) (cE (.int 4)) ixR) (bin true (vE 1) (cE (.int 4)) ixR) addR))
  (seqS (setS 3 true (callP F_plus [] (consA true (callP F_times [] (consA true (callP F_fraction [] (consA true (bin true (vE 0) (cE (.int 4)) ixR) (consA true (cE (.int 1)) nilA))) (consA true (bin true (vE 0) (cE (.int 3)) ixR) nilA))) (consA true (callP F_times [] (consA true (callP F_fraction [] (consA true (bin true (vE 1) (cE (.int 4)) ixR) (consA true (cE (.int 1)) nilA))) (consA true (bin true (vE 1) (cE (.int 3)) ixR) nilA))) nilA))))
  (retS (tupE (consA true (bin true (vE 0) (cE (.int 0)) ixR) (consA true (bin true (vE 1) (cE (.int 1)) ixR) (consA true (bin true (vE 0) (cE (.int 2)) ixR) (consA true (callP F_over [] (consA true (vE 3) (consA true (callP F_fraction [] (consA true (vE 2) (consA true (cE (.int 1)) nilA))) nilA))) (consA true (vE 2) nilA)))))))))
def sf_times_on : SS := (seqS (setS 1 false (lstE nilA))
  (seqS (forS (itR1 (consA true (bin true (callV lenC (consA true (vE 0) nilA)) (cE (.int 1)) (intR (fun _ _ => True) fun i j => .int (i - j))) nilA)) (gN 2 true) (seqS (setS 3 true (callP F_time_to [] (consA true (tupE (consA true (bin true (bin true (vE 0) (vE 2) ixR) (cE (.int 2)) ixR) (consA true (bin true (bin true (vE 0) (vE 2) ixR) (cE (.int 3)) ixR) nilA))) (consA true (tupE (consA true (bin true (bin true (vE 0) (bin true (vE 2) (cE (.int 1)) addR) ixR) (cE (.int 2)) ixR) (consA true (bin true (bin true (vE 0) (bin true (vE 2) (cE (.int 1)) addR) ixR) (cE (.int 3)) ixR) nilA))) nilA))))
  (ifS (bT (bin true (vE 3) (cE .non) (isNR true))) (exprS (methL 1 appL (consA true (vE 3) nilA))) nxS)))
  (retS (mE 1))))
def sf_stuck_together : SS := (seqS (setS 1 false (lstE nilA))
  (seqS (forS (itS (vE 0)) (gN 2 true) (ifS (andT (bT (bin true (rE 1) (lstE nilA) (eqR true))) (bT (bin true (bin true (bin true (rE 1) (negE (cE (.int 1))) ixR) (cE (.int 2)) ixR) (bin true (vE 2) (cE (.int 2)) ixR) (eqR false)))) (setixS true 1 (callP F_joined [] (consA true (bin true (rE 1) (negE (cE (.int 1))) ixR) (consA true (vE 2) nilA))) (negE (cE (.int 1)))) (exprS (methL 1 appL (consA true (vE 2) nilA)))))
  (retS (mE 1))))
def sf_next_moment : SS := (seqS (setS 2 true (callP F_least_of [] (consA true (callP F_times_on [] (consA true (vE 0) nilA)) nilA)))
  (seqS (ifS (bT (bin true (vE 2) (cE .non) (isNR false))) (retS (cE .non)) nxS)
  (retS (callP F_plus [] (consA true (vE 1) (consA true (vE 2) nilA))))))
def sf_stuck_on : SS := (seqS (setS 3 true (callP F_led_on [] (consA true (vE 0) (consA true (callP F_minus [] (consA true (vE 2) (consA true (vE 1) nilA))) nilA))))
  (seqS (setS 4 true (callP F_stuck_together [] (consA true (vE 3) nilA)))
  (seqS (setS 5 true (compE [6] (itS (vE 3)) (gN 6 true) yesT (slX (vE 6) none (some (cE (.int 2))))))
  (retS (tupE (consA true (vE 4) (consA true (compE [6] (itS (vE 4)) (gN 6 true) (bT (bin true (slX (vE 6) none (some (cE (.int 2)))) (vE 5) (inR true))) (vE 6)) nilA)))))))
def sf_stuck_run : SS := (seqS (setS 1 true (callP F_first_clumps [] (consA true (vE 0) nilA)))
  (seqS (setS 2 true (cE gv_NOUGHT))
  (seqS (setS 3 false (lstE nilA))
  (seqS (setS 4 true (callP F_next_moment [] (consA true (vE 1) (consA true (vE 2) nilA))))
  (seqS (whileS (bT (bin true (vE 4) (cE .non) (isNR true))) (seqS (asgS (gT 2 (gCons (gN 1 true) (gCons (gN 5 true) gNil))) (callP F_stuck_on [] (consA true (vE 1) (consA true (vE 2) (consA true (vE 4) nilA)))))
  (seqS (exprS (methL 3 extL (consA true (compE [6, 7, 8, 9, 10] (itS (vE 5)) (gT 5 (gCons (gN 6 true) (gCons (gN 7 true) (gCons (gN 8 true) (gCons (gN 9 true) (gCons (gN 10 true) gNil)))))) yesT (tupE (consA true (vE 4) (consA true (vE 8) (consA true (vE 6) (consA true (vE 7) nilA)))))) nilA)))
  (seqS (setS 2 true (vE 4))
  (setS 4 true (callP F_next_moment [] (consA true (vE 1) (consA true (vE 2) nilA))))))))
  (retS (mE 3)))))))
theorem m_time_to : MonoF F_time_to := fun ss K K' E E' hk he ⟨p, u, q, v, h1, h2, h3⟩ => ⟨p, u, q, v, h1, h2, hk _ _ h3⟩
theorem m_least_of : MonoF F_least_of := fun ss K K' E E' hk he ⟨st, qs, h1, h2, h3⟩ => ⟨st, qs, h1, h2, hk _ _ h3⟩
theorem m_first_clumps : MonoF F_first_clumps := fun ss K K' E E' hk he ⟨st, bs, h1, h2, h3⟩ => ⟨st, bs, h1, h2, hk _ _ h3⟩
theorem m_led_on : MonoF F_led_on := fun ss K K' E E' hk he ⟨st, gs, t, d, h1, h2, h3⟩ => ⟨st, gs, t, d, h1, h2, hk _ _ h3⟩
theorem m_joined : MonoF F_joined := fun ss K K' E E' hk he ⟨t, x, y, h1, h2, h3⟩ => ⟨t, x, y, h1, h2, hk _ _ h3⟩
theorem m_times_on : MonoF F_times_on := fun ss K K' E E' hk he ⟨st, gs, t, h1, h2, h3⟩ => ⟨st, gs, t, h1, h2, hk _ _ h3⟩
theorem m_stuck_together : MonoF F_stuck_together := fun ss K K' E E' hk he ⟨st, gs, t, h1, h2, h3⟩ => ⟨st, gs, t, h1, h2, hk _ _ h3⟩
theorem m_next_moment : MonoF F_next_moment := fun ss K K' E E' hk he ⟨st, gs, t, h1, h2, h3⟩ => ⟨st, gs, t, h1, h2, hk _ _ h3⟩
theorem m_stuck_on : MonoF F_stuck_on := fun ss K K' E E' hk he ⟨st, gs, t, t', h1, h2, h3⟩ => ⟨st, gs, t, t', h1, h2, hk _ _ h3⟩
theorem m_stuck_run : MonoF F_stuck_run := fun ss K K' E E' hk he ⟨st, bs, h1, h2, h3⟩ => ⟨st, bs, h1, h2, hk _ _ h3⟩
theorem to_time_to : ∀ ss K E, F_time_to ss K E → defF [false, false] 2 sf_time_to ss K E := fun ss K E h => by
  obtain ⟨p, u, q, v, rfl, ⟨s1, s2, s3, s4⟩, h⟩ := h
  have w1 := s3.sub s1
  have w2 := s2.sub s4
  simp [sf_time_to, cE, vE, bE, rE, fE, mE, bin, nilA, consA, bT, andT, orT, notT, tupE, lstE, allV, allM, okB, intR, addR, asL, asT, asD, eqR, eqD_nn, eqD_bb, eqD_ii, eqD_ss, eqD_tt, eqD_ll, eqD_bi, eqD_ib, eqD_nt, eqD_tn, eqD_it, eqD_ti, eqD_ni, eqD_in, eqDs_nn, eqDs_cc, eqDs_nc, eqDs_cn, cmpD, cmpDs, depD, depDs, isNon, isNR, chainE, tvE, andV, orV, notV, ifE, slEV, ixR, callV, lenC, isiC, tyN, pick, retEV, callP, argD, argDs, seqS, bkS, ctS, exprS, retS, retNS, ifS, evSl, setS, SK.loop, gN, gNil, gCons, gT, asgS, parS, defF, defK, raiseS, absC, divmodC, mmC, stL, itL, itT, itR1, itR2, itE, shL, itZ, itV, forS, evD, methL, appL, clrL, popL, insL, trL, extL, setixS, argS, argSs, callI, callN, hereA, nextA, negE, itS, wipeR, compE, compD, yesT, seqD, listC, tupC, numd, zipd, nxS, frSl, retSl, retSls, retOk, retOks, tryAsS, tryOnlyS, lookB, kinE, xfE, lookF, frzE, isTR, isTB, allC, blsD, gU, raiseIS, at0, at1, at2, at3, inR, cmpO, heldR, appT, lrE, sortC, intC, intsD, slE, intO, cutD, eqXR, slX, addT, repT, compX, compDx, neYR, lrevE, F_under, F_over, F_minus, F_two, Rat.den_nz, nd]
  refine ⟨by (repeat' with_reducible apply And.intro) <;> try first | assumption | exact Sm.n (by assumption) | exact Sm.d (by assumption) | exact Si.mono (by assumption) (by decide) | exact dpos _ | exact Rat.nz _ | exact Rat.den_nz _, ?_⟩
  by_cases c : v < u
  · rw [if_pos c] at h ⊢
    have ne : u - v ≠ 0 := by grind
    rw [if_neg ne]
    (repeat' with_reducible apply And.intro) <;> try first | assumption | exact Sm.n (by assumption) | exact Sm.d (by assumption) | exact Si.mono (by assumption) (by decide) | exact dpos _ | exact Rat.nz _ | exact Rat.den_nz _
  · rw [if_neg c] at h ⊢
    exact h
theorem to_least_of : ∀ ss K E, F_least_of ss K E → defF [false] 3 sf_least_of ss K E := fun ss K E h => by
  obtain ⟨st, qs, rfl, ⟨hl, hs⟩, h⟩ := h
  simp [sf_least_of, cE, vE, bE, rE, fE, mE, bin, nilA, consA, bT, andT, orT, notT, tupE, lstE, allV, allM, okB, intR, addR, asL, asT, asD, eqR, eqD_nn, eqD_bb, eqD_ii, eqD_ss, eqD_tt, eqD_ll, eqD_bi, eqD_ib, eqD_nt, eqD_tn, eqD_it, eqD_ti, eqD_ni, eqD_in, eqDs_nn, eqDs_cc, eqDs_nc, eqDs_cn, cmpD, cmpDs, depD, depDs, isNon, isNR, chainE, tvE, andV, orV, notV, ifE, slEV, ixR, callV, lenC, isiC, tyN, pick, retEV, callP, argD, argDs, seqS, bkS, ctS, exprS, retS, retNS, ifS, evSl, setS, SK.loop, gN, gNil, gCons, gT, asgS, parS, defF, defK, raiseS, absC, divmodC, mmC, stL, itL, itT, itR1, itR2, itE, shL, itZ, itV, forS, evD, methL, appL, clrL, popL, insL, trL, extL, setixS, argS, argSs, callI, callN, hereA, nextA, negE, itS, wipeR, compE, compD, yesT, seqD, listC, tupC, numd, zipd, nxS, frSl, retSl, retSls, retOk, retOks, tryAsS, tryOnlyS, lookB, kinE, xfE, lookF, frzE, isTR, isTB, allC, blsD, gU, raiseIS, at0, at1, at2, at3, inR, cmpO, heldR, appT, lrE, sortC, intC, intsD, slE, intO, cutD, eqXR, slX, addT, repT, compX, compDx, neYR, lrevE]
  refine loop_inv (fun j ρ => ∃ a x2, ρ = [.v (.lst st (qs.map frD)), .v (optQ a), x2] ∧ least none qs = least a (qs.drop j) ∧ ∀ q, a = some q → Sm 3000 q) ⟨none, .no, rfl, rfl, fun _ e => nomatch e⟩ ?_ ?_
  · rintro j e ρ K2 he ⟨a, x2, rfl, hle, ha⟩ next
    rw [List.getElem?_map] at he
    obtain ⟨q, hq, rfl⟩ := Option.map_eq_some_iff.mp he
    obtain ⟨hj, eq⟩ := List.getElem?_eq_some_iff.mp hq
    have sq := hs q (List.mem_of_getElem? hq)
    rw [List.drop_eq_getElem_cons hj, eq] at hle
    cases a with
    | none =>
      simp [cE, vE, bE, rE, fE, mE, bin, nilA, consA, bT, andT, orT, notT, tupE, lstE, allV, allM, okB, intR, addR, asL, asT, asD, eqR, eqD_nn, eqD_bb, eqD_ii, eqD_ss, eqD_tt, eqD_ll, eqD_bi, eqD_ib, eqD_nt, eqD_tn, eqD_it, eqD_ti, eqD_ni, eqD_in, eqDs_nn, eqDs_cc, eqDs_nc, eqDs_cn, cmpD, cmpDs, depD, depDs, isNon, isNR, chainE, tvE, andV, orV, notV, ifE, slEV, ixR, callV, lenC, isiC, tyN, pick, retEV, callP, argD, argDs, seqS, bkS, ctS, exprS, retS, retNS, ifS, evSl, setS, SK.loop, gN, gNil, gCons, gT, asgS, parS, defF, defK, raiseS, absC, divmodC, mmC, stL, itL, itT, itR1, itR2, itE, shL, itZ, itV, forS, evD, methL, appL, clrL, popL, insL, trL, extL, setixS, argS, argSs, callI, callN, hereA, nextA, negE, itS, wipeR, compE, compD, yesT, seqD, listC, tupC, numd, zipd, nxS, frSl, retSl, retSls, retOk, retOks, tryAsS, tryOnlyS, lookB, kinE, xfE, lookF, frzE, isTR, isTB, allC, blsD, gU, raiseIS, at0, at1, at2, at3, inR, cmpO, heldR, appT, lrE, sortC, intC, intsD, slE, intO, cutD, eqXR, slX, addT, repT, compX, compDx, neYR, lrevE, optQ, isNon]
      exact next _ ⟨some q, _, rfl, hle, fun x e => by cases e; exact sq⟩
    | some a =>
      have sa := ha a rfl
      have e2 : least (some a) (q :: qs.drop (j + 1)) = least (if q < a then some q else some a) (qs.drop (j + 1)) := rfl
      rw [e2] at hle
      simp [cE, vE, bE, rE, fE, mE, bin, nilA, consA, bT, andT, orT, notT, tupE, lstE, allV, allM, okB, intR, addR, asL, asT, asD, eqR, eqD_nn, eqD_bb, eqD_ii, eqD_ss, eqD_tt, eqD_ll, eqD_bi, eqD_ib, eqD_nt, eqD_tn, eqD_it, eqD_ti, eqD_ni, eqD_in, eqDs_nn, eqDs_cc, eqDs_nc, eqDs_cn, cmpD, cmpDs, depD, depDs, isNon, isNR, chainE, tvE, andV, orV, notV, ifE, slEV, ixR, callV, lenC, isiC, tyN, pick, retEV, callP, argD, argDs, seqS, bkS, ctS, exprS, retS, retNS, ifS, evSl, setS, SK.loop, gN, gNil, gCons, gT, asgS, parS, defF, defK, raiseS, absC, divmodC, mmC, stL, itL, itT, itR1, itR2, itE, shL, itZ, itV, forS, evD, methL, appL, clrL, popL, insL, trL, extL, setixS, argS, argSs, callI, callN, hereA, nextA, negE, itS, wipeR, compE, compD, yesT, seqD, listC, tupC, numd, zipd, nxS, frSl, retSl, retSls, retOk, retOks, tryAsS, tryOnlyS, lookB, kinE, xfE, lookF, frzE, isTR, isTB, allC, blsD, gU, raiseIS, at0, at1, at2, at3, inR, cmpO, heldR, appT, lrE, sortC, intC, intsD, slE, intO, cutD, eqXR, slX, addT, repT, compX, compDx, neYR, lrevE, optQ, isNon, F_under, Rat.den_nz, nd]
      refine ⟨⟨q.den_pos, a.den_pos, by (repeat' with_reducible apply And.intro) <;> try first | assumption | exact Sm.n (by assumption) | exact Sm.d (by assumption) | exact Si.mono (by assumption) (by decide) | exact dpos _ | exact Rat.nz _ | exact Rat.den_nz _⟩, ?_⟩
      by_cases c : q < a
      · rw [if_pos c] at hle ⊢
        exact next _ ⟨some q, _, rfl, hle, fun x e => by cases e; exact sq⟩
      · rw [if_neg c] at hle ⊢
        exact next _ ⟨some a, _, rfl, hle, ha⟩
  · rintro ρ ⟨a, x2, rfl, hle, ha⟩
    rw [List.length_map, List.drop_length] at hle
    have : least a [] = a := by cases a <;> rfl
    rw [hle, this] at h
    cases a with
    | none => exact ⟨⟨rfl, rfl⟩, h⟩
    | some a => exact ⟨⟨rfl, rfl⟩, h⟩
theorem clD_one {b : Bw} {i : Nat} (h : 1 ≤ b.m) : clD 0 (i, [b]) = .tup [.int (i : Nat), .int (i : Nat), frD b.p, frD b.u, .int b.m] := by
  have e1 : gp [b] 0 = b.p := by rw [gp_one h]; grind
  have e2 : gM [b] = b.m := by simp [gM]
  have e3 : lastI (i, [b]) = (i : Int) := by unfold lastI; simp
  unfold clD
  rw [e3]
  simp only [e1, gu_one h, e2]
theorem retOks_cl {t : Rat} : ∀ gs : List Gp, retOks (gs.map (clD t)) = true
  | [] => rfl
  | x :: gs => by
    rw [List.map_cons]
    show (retOk (clD t x) && retOks (gs.map (clD t))) = true
    rw [retOks_cl gs]
    rfl
theorem first_comp {s0 : Sl} {K : List D → Prop} : ∀ (bs : List Bw) (i : Nat) (acc : List D), (PosG bs) → K (acc ++ (sng i bs).map (clD 0)) →
    compD [1, 2] (gT 2 (gCons (gN 1 true) (gCons (gN 2 true) gNil))) yesT (tupE (consA true (vE 1) (consA true (vE 1) (consA true (bin true (vE 2) (cE (.int 0)) ixR) (consA true (bin true (vE 2) (cE (.int 1)) ixR) (consA true (bin true (vE 2) (cE (.int 2)) ixR) nilA)))))) [s0, .no, .no] (numd i (bs.map wD)) acc K
  | [], i, acc, _, h => by simpa [numd, compD, sng] using h
  | b :: bs, i, acc, hb, h => by
    have ih := first_comp (s0 := s0) (K := K) bs (i + 1) (acc ++ [clD 0 (i, [b])]) (fun c hc => hb c (List.mem_cons_of_mem _ hc)) (by simpa [sng] using h)
    rw [clD_one (hb b List.mem_cons_self)] at ih
    rw [List.map_cons, numd]
    simp [cE, vE, bE, rE, fE, mE, bin, nilA, consA, bT, andT, orT, notT, tupE, lstE, allV, allM, okB, intR, addR, asL, asT, asD, eqR, eqD_nn, eqD_bb, eqD_ii, eqD_ss, eqD_tt, eqD_ll, eqD_bi, eqD_ib, eqD_nt, eqD_tn, eqD_it, eqD_ti, eqD_ni, eqD_in, eqDs_nn, eqDs_cc, eqDs_nc, eqDs_cn, cmpD, cmpDs, depD, depDs, isNon, isNR, chainE, tvE, andV, orV, notV, ifE, slEV, ixR, callV, lenC, isiC, tyN, pick, retEV, callP, argD, argDs, seqS, bkS, ctS, exprS, retS, retNS, ifS, evSl, setS, SK.loop, gN, gNil, gCons, gT, asgS, parS, defF, defK, raiseS, absC, divmodC, mmC, stL, itL, itT, itR1, itR2, itE, shL, itZ, itV, forS, evD, methL, appL, clrL, popL, insL, trL, extL, setixS, argS, argSs, callI, callN, hereA, nextA, negE, itS, wipeR, compE, compD, yesT, seqD, listC, tupC, numd, zipd, nxS, frSl, retSl, retSls, retOk, retOks, tryAsS, tryOnlyS, lookB, kinE, xfE, lookF, frzE, isTR, isTB, allC, blsD, gU, raiseIS, at0, at1, at2, at3, inR, cmpO, heldR, appT, lrE, sortC, intC, intsD, slE, intO, cutD, eqXR, slX, addT, repT, compX, compDx, neYR, lrevE, wD, at2] at ih ⊢
    exact ih
theorem to_first_clumps : ∀ ss K E, F_first_clumps ss K E → defF [false] 3 sf_first_clumps ss K E := fun ss K E h => by
  obtain ⟨st, bs, rfl, ⟨hl, hb⟩, h⟩ := h
  simp [sf_first_clumps, cE, vE, bE, rE, fE, mE, bin, nilA, consA, bT, andT, orT, notT, tupE, lstE, allV, allM, okB, intR, addR, asL, asT, asD, eqR, eqD_nn, eqD_bb, eqD_ii, eqD_ss, eqD_tt, eqD_ll, eqD_bi, eqD_ib, eqD_nt, eqD_tn, eqD_it, eqD_ti, eqD_ni, eqD_in, eqDs_nn, eqDs_cc, eqDs_nc, eqDs_cn, cmpD, cmpDs, depD, depDs, isNon, isNR, chainE, tvE, andV, orV, notV, ifE, slEV, ixR, callV, lenC, isiC, tyN, pick, retEV, callP, argD, argDs, seqS, bkS, ctS, exprS, retS, retNS, ifS, evSl, setS, SK.loop, gN, gNil, gCons, gT, asgS, parS, defF, defK, raiseS, absC, divmodC, mmC, stL, itL, itT, itR1, itR2, itE, shL, itZ, itV, forS, evD, methL, appL, clrL, popL, insL, trL, extL, setixS, argS, argSs, callI, callN, hereA, nextA, negE, itS, wipeR, yesT, seqD, listC, tupC, numd, zipd, nxS, frSl, retSl, retSls, retOk, retOks, tryAsS, tryOnlyS, lookB, kinE, xfE, lookF, frzE, isTR, isTB, allC, blsD, gU, raiseIS, at0, at1, at2, at3, inR, cmpO, heldR, appT, lrE, sortC, intC, intsD, slE, intO, cutD, eqXR, slX, addT, repT, compX, compDx, neYR, lrevE, compE]
  refine ⟨by rw [numd_len]; simp; omega, first_comp bs 0 [] hb ?_⟩
  exact ⟨retOks_cl _, h⟩
theorem to_led_on : ∀ ss K E, F_led_on ss K E → defF [false, false] 8 sf_led_on ss K E := fun ss K E h => by
  obtain ⟨st, gs, t, d, rfl, ⟨ok, hl, ht, hd⟩, h⟩ := h
  simp [sf_led_on, cE, vE, bE, rE, fE, mE, bin, nilA, consA, bT, andT, orT, notT, tupE, lstE, allV, allM, okB, intR, addR, asL, asT, asD, eqR, eqD_nn, eqD_bb, eqD_ii, eqD_ss, eqD_tt, eqD_ll, eqD_bi, eqD_ib, eqD_nt, eqD_tn, eqD_it, eqD_ti, eqD_ni, eqD_in, eqDs_nn, eqDs_cc, eqDs_nc, eqDs_cn, cmpD, cmpDs, depD, depDs, isNon, isNR, chainE, tvE, andV, orV, notV, ifE, slEV, ixR, callV, lenC, isiC, tyN, pick, retEV, callP, argD, argDs, seqS, bkS, ctS, exprS, retS, retNS, ifS, evSl, setS, SK.loop, gN, gNil, gCons, gT, asgS, parS, defF, defK, raiseS, absC, divmodC, mmC, stL, itL, itT, itR1, itR2, itE, shL, itZ, itV, forS, evD, methL, appL, clrL, popL, insL, trL, extL, setixS, argS, argSs, callI, callN, hereA, nextA, negE, itS, wipeR, compE, compD, yesT, seqD, listC, tupC, numd, zipd, nxS, frSl, retSl, retSls, retOk, retOks, tryAsS, tryOnlyS, lookB, kinE, xfE, lookF, frzE, isTR, isTB, allC, blsD, gU, raiseIS, at0, at1, at2, at3, inR, cmpO, heldR, appT, lrE, sortC, intC, intsD, slE, intO, cutD, eqXR, slX, addT, repT, compX, compDx, neYR, lrevE]
  refine loop_inv (fun j ρ => ∃ x3 x4 x5 x6 x7, ρ = [.v (.lst st (gs.map (clD t))), .v (frD d), .l ((gs.take j).map (clD (t + d))), x3, x4, x5, x6, x7]) ⟨.no, .no, .no, .no, .no, by simp⟩ ?_ ?_
  · rintro j e ρ K2 he ⟨x3, x4, x5, x6, x7, rfl⟩ next
    rw [List.getElem?_map] at he
    obtain ⟨x, hx, rfl⟩ := Option.map_eq_some_iff.mp he
    have gk := ok.g (List.mem_of_getElem? hx)
    have s1 := gp_sm gk ht
    have s2 := gu_sm gk
    have s3 := s2.mul hd
    have s1' : Sm 1000 (gp x.2 t) := s1.mono (by decide)
    have s2' : Sm 1000 (gu x.2) := s2.mono (by decide)
    have s3' : Sm 1500 (gu x.2 * d) := s3.mono (by decide)
    have etk : gs.take (j + 1) = gs.take j ++ [x] := by rw [List.take_add_one, hx]; rfl
    have ed : clD (t + d) x = .tup [.int (x.1 : Nat), .int (lastI x), frD (gp x.2 t + gu x.2 * d), frD (gu x.2), .int (gM x.2)] := by unfold clD; rw [gp_on]
    simp [cE, vE, bE, rE, fE, mE, bin, nilA, consA, bT, andT, orT, notT, tupE, lstE, allV, allM, okB, intR, addR, asL, asT, asD, eqR, eqD_nn, eqD_bb, eqD_ii, eqD_ss, eqD_tt, eqD_ll, eqD_bi, eqD_ib, eqD_nt, eqD_tn, eqD_it, eqD_ti, eqD_ni, eqD_in, eqDs_nn, eqDs_cc, eqDs_nc, eqDs_cn, cmpD, cmpDs, depD, depDs, isNon, isNR, chainE, tvE, andV, orV, notV, ifE, slEV, ixR, callV, lenC, isiC, tyN, pick, retEV, callP, argD, argDs, seqS, bkS, ctS, exprS, retS, retNS, ifS, evSl, setS, SK.loop, gN, gNil, gCons, gT, asgS, parS, defF, defK, raiseS, absC, divmodC, mmC, stL, itL, itT, itR1, itR2, itE, shL, itZ, itV, forS, evD, methL, appL, clrL, popL, insL, trL, extL, setixS, argS, argSs, callI, callN, hereA, nextA, negE, itS, wipeR, compE, compD, yesT, seqD, listC, tupC, numd, zipd, nxS, frSl, retSl, retSls, retOk, retOks, tryAsS, tryOnlyS, lookB, kinE, xfE, lookF, frzE, isTR, isTB, allC, blsD, gU, raiseIS, at0, at1, at2, at3, inR, cmpO, heldR, appT, lrE, sortC, intC, intsD, slE, intO, cutD, eqXR, slX, addT, repT, compX, compDx, neYR, lrevE, clD, F_plus, F_times, F_two, Rat.den_nz, nd]
    refine ⟨by (repeat' with_reducible apply And.intro) <;> try first | assumption | exact Sm.n (by assumption) | exact Sm.d (by assumption) | exact Si.mono (by assumption) (by decide) | exact dpos _ | exact Rat.nz _ | exact Rat.den_nz _, by (repeat' with_reducible apply And.intro) <;> try first | assumption | exact Sm.n (by assumption) | exact Sm.d (by assumption) | exact Si.mono (by assumption) (by decide) | exact dpos _ | exact Rat.nz _ | exact Rat.den_nz _, by omega, next _ ⟨.v (.int (x.1 : Nat)), .v (.int (lastI x)), .v (frD (gp x.2 t)), .v (frD (gu x.2)), .v (.int (gM x.2)), ?_⟩⟩
    rw [etk, List.map_append, List.map_cons, List.map_nil, ed, List.map_take]
  · rintro ρ ⟨x3, x4, x5, x6, x7, rfl⟩
    rw [List.length_map, List.take_length]
    exact ⟨⟨retOks_cl _, rfl⟩, h⟩
theorem at4' {a b c d e : D} : L2.atI [a, b, c, d, e] 4 = some e := rfl
theorem to_joined : ∀ ss K E, F_joined ss K E → defF [false, false] 4 sf_joined ss K E := fun ss K E h => by
  obtain ⟨t, x, y, rfl, ⟨gx, gy, ct, e⟩, h⟩ := h
  simp [sf_joined, cE, vE, bE, rE, fE, mE, bin, nilA, consA, bT, andT, orT, notT, tupE, lstE, allV, allM, okB, intR, addR, asL, asT, asD, eqR, eqD_nn, eqD_bb, eqD_ii, eqD_ss, eqD_tt, eqD_ll, eqD_bi, eqD_ib, eqD_nt, eqD_tn, eqD_it, eqD_ti, eqD_ni, eqD_in, eqDs_nn, eqDs_cc, eqDs_nc, eqDs_cn, cmpD, cmpDs, depD, depDs, isNon, isNR, chainE, tvE, andV, orV, notV, ifE, slEV, ixR, callV, lenC, isiC, tyN, pick, retEV, callP, argD, argDs, seqS, bkS, ctS, exprS, retS, retNS, ifS, evSl, setS, SK.loop, gN, gNil, gCons, gT, asgS, parS, defF, defK, raiseS, absC, divmodC, mmC, stL, itL, itT, itR1, itR2, itE, shL, itZ, itV, forS, evD, methL, appL, clrL, popL, insL, trL, extL, setixS, argS, argSs, callI, callN, hereA, nextA, negE, itS, wipeR, compE, compD, yesT, seqD, listC, tupC, numd, zipd, nxS, frSl, retSl, retSls, retOk, retOks, tryAsS, tryOnlyS, lookB, kinE, xfE, lookF, frzE, isTR, isTB, allC, blsD, gU, raiseIS, at0, at1, at2, at3, inR, cmpO, heldR, appT, lrE, sortC, intC, intsD, slE, intO, cutD, eqXR, slX, addT, repT, compX, compDx, neYR, lrevE, clD, F_fraction, F_plus, F_times, F_over, F_two, Rat.den_nz, nd, isI, at4', at3, div_1]
  have hx := gM_pos gx.ok gx.ne
  have hy := gM_pos gy.ok gy.ne
  have bx := gx.m
  have by' := gy.m
  have lx := gx.le
  have ly := gy.le
  have sx : Sm 12 (gM x.2 : Rat) := (Sm.int (n := 11) (by unfold Si; omega)).mono (by decide)
  have sy : Sm 12 (gM y.2 : Rat) := (Sm.int (n := 11) (by unfold Si; omega)).mono (by decide)
  have ux := gu_sm gx
  have uy := gu_sm gy
  have m1 := sx.mul ux
  have m2 := sy.mul uy
  have m3 := m1.add m2
  have m4 := sx.add sy
  have o1 : Si 8100 1 := (Si.lit (n := 1)).mono (by decide)
  have ix : Si 4000 (gM x.2) := Si.mono (n := 11) (by unfold Si; omega) (by decide)
  have iy : Si 4000 (gM y.2) := Si.mono (n := 11) (by unfold Si; omega) (by decide)
  have i1 : Si 4000 1 := (Si.lit (n := 1)).mono (by decide)
  have qx := gMq gx.ok gx.ne
  have qy := gMq gy.ok gy.ne
  have ne : (gM x.2 : Rat) + (gM y.2 : Rat) ≠ 0 := by grind
  rw [if_neg ne]
  have vx : (gM x.2 : Rat) * gu x.2 = gV x.2 := by unfold gu; grind
  have vy : (gM y.2 : Rat) * gu y.2 = gV y.2 := by unfold gu; grind
  have er : clD t (x.1, x.2 ++ y.2) = .tup [.int (x.1 : Nat), .int (lastI y), frD (gp x.2 t), frD (((gM x.2 : Rat) * gu x.2 + (gM y.2 : Rat) * gu y.2) / ((gM x.2 : Rat) + (gM y.2 : Rat))), .int (gM x.2 + gM y.2)] := by
    unfold clD
    have e1 : lastI (x.1, x.2 ++ y.2) = lastI y := by
      have k : y.1 = x.1 + x.2.length := ct
      unfold lastI
      simp only [List.length_append]
      rw [k]
      push_cast
      omega
    have e2 : gu (x.2 ++ y.2) = ((gM x.2 : Rat) * gu x.2 + (gM y.2 : Rat) * gu y.2) / ((gM x.2 : Rat) + (gM y.2 : Rat)) := by
      rw [gu_join, vx, vy, Rat.intCast_add]
    rw [e1]
    simp only [e2, gp_join gx gy e, gM_app]
  rw [er] at h
  refine ⟨o1, by (repeat' with_reducible apply And.intro) <;> try first | assumption | exact Sm.n (by assumption) | exact Sm.d (by assumption) | exact Si.mono (by assumption) (by decide) | exact dpos _ | exact Rat.nz _ | exact Rat.den_nz _, o1, by (repeat' with_reducible apply And.intro) <;> try first | assumption | exact Sm.n (by assumption) | exact Sm.d (by assumption) | exact Si.mono (by assumption) (by decide) | exact dpos _ | exact Rat.nz _ | exact Rat.den_nz _, by (repeat' with_reducible apply And.intro) <;> try first | assumption | exact Sm.n (by assumption) | exact Sm.d (by assumption) | exact Si.mono (by assumption) (by decide) | exact dpos _ | exact Rat.nz _ | exact Rat.den_nz _, o1, by (repeat' with_reducible apply And.intro) <;> try first | assumption | exact Sm.n (by assumption) | exact Sm.d (by assumption) | exact Si.mono (by assumption) (by decide) | exact dpos _ | exact Rat.nz _ | exact Rat.den_nz _, h⟩
theorem to_times_on : ∀ ss K E, F_times_on ss K E → defF [false] 4 sf_times_on ss K E := fun ss K E h => by
  obtain ⟨st, gs, t, rfl, ⟨ok, hl, ht⟩, h⟩ := h
  simp [sf_times_on, cE, vE, bE, rE, fE, mE, bin, nilA, consA, bT, andT, orT, notT, tupE, lstE, allV, allM, okB, intR, addR, asL, asT, asD, eqR, eqD_nn, eqD_bb, eqD_ii, eqD_ss, eqD_tt, eqD_ll, eqD_bi, eqD_ib, eqD_nt, eqD_tn, eqD_it, eqD_ti, eqD_ni, eqD_in, eqDs_nn, eqDs_cc, eqDs_nc, eqDs_cn, cmpD, cmpDs, depD, depDs, isNon, isNR, chainE, tvE, andV, orV, notV, ifE, slEV, ixR, callV, lenC, isiC, tyN, pick, retEV, callP, argD, argDs, seqS, bkS, ctS, exprS, retS, retNS, ifS, evSl, setS, SK.loop, gN, gNil, gCons, gT, asgS, parS, defF, defK, raiseS, absC, divmodC, mmC, stL, itL, itT, itR1, itR2, itE, shL, itZ, itV, forS, evD, methL, appL, clrL, popL, insL, trL, extL, setixS, argS, argSs, callI, callN, hereA, nextA, negE, itS, wipeR, compE, compD, yesT, seqD, listC, tupC, numd, zipd, nxS, frSl, retSl, retSls, retOk, retOks, tryAsS, tryOnlyS, lookB, kinE, xfE, lookF, frzE, isTR, isTB, allC, blsD, gU, raiseIS, at0, at1, at2, at3, inR, cmpO, heldR, appT, lrE, sortC, intC, intsD, slE, intO, cutD, eqXR, slX, addT, repT, compX, compDx, neYR, lrevE]
  refine ⟨by omega, ?_⟩
  refine loop_inv (fun j ρ => ∃ acc x2 x3, ρ = [.v (.lst st (gs.map (clD t))), .l (acc.map frD), x2, x3] ∧ tms t gs = acc ++ tms t (gs.drop j) ∧ acc.length ≤ j) ⟨[], .no, .no, rfl, rfl, Nat.le_refl _⟩ ?_ ?_
  · rintro j e ρ K2 he ⟨acc, x2, x3, rfl, hm, ha⟩ next
    obtain ⟨hj, rfl⟩ := rngD_get he
    have j1 : j + 1 < gs.length := by omega
    have a0 : L2.atI (gs.map (clD t)) (j : Int) = some (clD t gs[j]) := atN (by rw [List.getElem?_map, List.getElem?_eq_getElem (by omega)]; rfl)
    have a1 : L2.atI (gs.map (clD t)) ((j : Int) + 1) = some (clD t gs[j + 1]) := by
      rw [show (j : Int) + 1 = ((j + 1 : Nat) : Int) by omega]
      exact atN (by rw [List.getElem?_map, List.getElem?_eq_getElem j1]; rfl)
    have gx := ok.g (List.getElem_mem (by omega : j < gs.length))
    have gy := ok.g (List.getElem_mem j1)
    rw [List.drop_eq_getElem_cons (by omega : j < gs.length), List.drop_eq_getElem_cons j1] at hm
    have e2 : tms t (gs[j] :: gs[j + 1] :: gs.drop (j + 1 + 1)) = (if gu (gs[j + 1]).2 < gu (gs[j]).2 then [(gp (gs[j + 1]).2 t - gp (gs[j]).2 t) / (gu (gs[j]).2 - gu (gs[j + 1]).2)] else []) ++ tms t (gs[j + 1] :: gs.drop (j + 1 + 1)) := rfl
    rw [e2, ← List.drop_eq_getElem_cons j1] at hm
    have p1 := gp_sm gx ht
    have p2 := gp_sm gy ht
    have u1 := gu_sm gx
    have u2 := gu_sm gy
    simp [cE, vE, bE, rE, fE, mE, bin, nilA, consA, bT, andT, orT, notT, tupE, lstE, allV, allM, okB, intR, addR, asL, asT, asD, eqR, eqD_nn, eqD_bb, eqD_ii, eqD_ss, eqD_tt, eqD_ll, eqD_bi, eqD_ib, eqD_nt, eqD_tn, eqD_it, eqD_ti, eqD_ni, eqD_in, eqDs_nn, eqDs_cc, eqDs_nc, eqDs_cn, cmpD, cmpDs, depD, depDs, isNon, isNR, chainE, tvE, andV, orV, notV, ifE, slEV, ixR, callV, lenC, isiC, tyN, pick, retEV, callP, argD, argDs, seqS, bkS, ctS, exprS, retS, retNS, ifS, evSl, setS, SK.loop, gN, gNil, gCons, gT, asgS, parS, defF, defK, raiseS, absC, divmodC, mmC, stL, itL, itT, itR1, itR2, itE, shL, itZ, itV, forS, evD, methL, appL, clrL, popL, insL, trL, extL, setixS, argS, argSs, callI, callN, hereA, nextA, negE, itS, wipeR, compE, compD, yesT, seqD, listC, tupC, numd, zipd, nxS, frSl, retSl, retSls, retOk, retOks, tryAsS, tryOnlyS, lookB, kinE, xfE, lookF, frzE, isTR, isTB, allC, blsD, gU, raiseIS, at0, at1, at2, at3, inR, cmpO, heldR, appT, lrE, sortC, intC, intsD, slE, intO, cutD, eqXR, slX, addT, repT, compX, compDx, neYR, lrevE, a0, a1, clD, at2, at3]
    refine ⟨_, _, _, _, rfl, ⟨p1.mono (by decide), u1.mono (by decide), p2.mono (by decide), u2.mono (by decide)⟩, ?_⟩
    by_cases c : gu (gs[j + 1]).2 < gu (gs[j]).2
    · rw [if_pos c] at hm ⊢
      simp [cE, vE, bE, rE, fE, mE, bin, nilA, consA, bT, andT, orT, notT, tupE, lstE, allV, allM, okB, intR, addR, asL, asT, asD, eqR, eqD_nn, eqD_bb, eqD_ii, eqD_ss, eqD_tt, eqD_ll, eqD_bi, eqD_ib, eqD_nt, eqD_tn, eqD_it, eqD_ti, eqD_ni, eqD_in, eqDs_nn, eqDs_cc, eqDs_nc, eqDs_cn, cmpD, cmpDs, depD, depDs, isNon, isNR, chainE, tvE, andV, orV, notV, ifE, slEV, ixR, callV, lenC, isiC, tyN, pick, retEV, callP, argD, argDs, seqS, bkS, ctS, exprS, retS, retNS, ifS, evSl, setS, SK.loop, gN, gNil, gCons, gT, asgS, parS, defF, defK, raiseS, absC, divmodC, mmC, stL, itL, itT, itR1, itR2, itE, shL, itZ, itV, forS, evD, methL, appL, clrL, popL, insL, trL, extL, setixS, argS, argSs, callI, callN, hereA, nextA, negE, itS, wipeR, compE, compD, yesT, seqD, listC, tupC, numd, zipd, nxS, frSl, retSl, retSls, retOk, retOks, tryAsS, tryOnlyS, lookB, kinE, xfE, lookF, frzE, isTR, isTB, allC, blsD, gU, raiseIS, at0, at1, at2, at3, inR, cmpO, heldR, appT, lrE, sortC, intC, intsD, slE, intO, cutD, eqXR, slX, addT, repT, compX, compDx, neYR, lrevE, isNon]
      refine ⟨by omega, next _ ⟨acc ++ [(gp (gs[j + 1]).2 t - gp (gs[j]).2 t) / (gu (gs[j]).2 - gu (gs[j + 1]).2)], _, _, (by rw [List.map_append]; rfl), by rw [hm]; simp, by simp; omega⟩⟩
    · rw [if_neg c] at hm ⊢
      simp [cE, vE, bE, rE, fE, mE, bin, nilA, consA, bT, andT, orT, notT, tupE, lstE, allV, allM, okB, intR, addR, asL, asT, asD, eqR, eqD_nn, eqD_bb, eqD_ii, eqD_ss, eqD_tt, eqD_ll, eqD_bi, eqD_ib, eqD_nt, eqD_tn, eqD_it, eqD_ti, eqD_ni, eqD_in, eqDs_nn, eqDs_cc, eqDs_nc, eqDs_cn, cmpD, cmpDs, depD, depDs, isNon, isNR, chainE, tvE, andV, orV, notV, ifE, slEV, ixR, callV, lenC, isiC, tyN, pick, retEV, callP, argD, argDs, seqS, bkS, ctS, exprS, retS, retNS, ifS, evSl, setS, SK.loop, gN, gNil, gCons, gT, asgS, parS, defF, defK, raiseS, absC, divmodC, mmC, stL, itL, itT, itR1, itR2, itE, shL, itZ, itV, forS, evD, methL, appL, clrL, popL, insL, trL, extL, setixS, argS, argSs, callI, callN, hereA, nextA, negE, itS, wipeR, compE, compD, yesT, seqD, listC, tupC, numd, zipd, nxS, frSl, retSl, retSls, retOk, retOks, tryAsS, tryOnlyS, lookB, kinE, xfE, lookF, frzE, isTR, isTB, allC, blsD, gU, raiseIS, at0, at1, at2, at3, inR, cmpO, heldR, appT, lrE, sortC, intC, intsD, slE, intO, cutD, eqXR, slX, addT, repT, compX, compDx, neYR, lrevE, isNon]
      exact next _ ⟨acc, _, _, rfl, by rw [hm]; simp, by omega⟩
  · rintro ρ ⟨acc, x2, x3, rfl, hm, ha⟩
    rw [rngD_len] at hm
    have e0 : tms t (gs.drop (gs.length - 1)) = [] := by
      have hl2 : (gs.drop (gs.length - 1)).length ≤ 1 := by simp; omega
      match gs.drop (gs.length - 1), hl2 with
      | [], _ => rfl
      | [_], _ => rfl
    rw [e0, List.append_nil] at hm
    rw [hm] at h
    have rf : retOks (acc.map frD) = true := by clear hm ha h; induction acc <;> simp_all [retOks, retOk]
    exact ⟨⟨rf, rfl⟩, h⟩
theorem at_last {xs : List D} {y : D} : L2.atI (xs ++ [y]) (-1) = some y := by
  unfold L2.atI L2.ixN
  rw [if_neg (by decide), if_pos (by simp; omega)]
  show (xs ++ [y])[_]? = _
  rw [show (-1 + ((xs ++ [y]).length : Int)).toNat = xs.length by simp; omega]
  simp
theorem ix_last {n : Nat} : L2.ixN (n + 1) (-1) = some n := by
  unfold L2.ixN
  rw [if_neg (by decide), if_pos (by omega)]
  congr 1
  omega
theorem set_last {xs : List D} {y z : D} : (xs ++ [y]).set xs.length z = xs ++ [z] := by simp
theorem rat_eq {p q : Rat} : (p.num = q.num ∧ (p.den : Int) = (q.den : Int)) ↔ p = q := ⟨fun h => Rat.ext h.1 (by exact_mod_cast h.2), fun h => by rw [h]; exact ⟨rfl, rfl⟩⟩
theorem cmp_cl {t : Rat} : ∀ gs : List Gp, cmpDs (gs.map (clD t)) = true
  | [] => rfl
  | x :: gs => by simp [cmpDs, cmp_cl gs, cmpD, clD]
theorem ct_join {y x : Gp} {r : List Gp} (k : Chn ct_ (y :: x :: r)) : Chn ct_ ((y.1, y.2 ++ x.2) :: r) := by
  cases r with
  | nil => trivial
  | cons w r =>
    refine ⟨?_, k.2.2⟩
    have h1 : x.1 = y.1 + y.2.length := k.1
    have h2 : w.1 = x.1 + x.2.length := k.2.1
    show w.1 = y.1 + (y.2 ++ x.2).length
    rw [List.length_append]
    omega
theorem to_stuck_together : ∀ ss K E, F_stuck_together ss K E → defF [false] 3 sf_stuck_together ss K E := fun ss K E h => by
  obtain ⟨st, gs, t, rfl, ⟨ok, hl, ct⟩, h⟩ := h
  simp [sf_stuck_together, cE, vE, bE, rE, fE, mE, bin, nilA, consA, bT, andT, orT, notT, tupE, lstE, allV, allM, okB, intR, addR, asL, asT, asD, eqR, eqD_nn, eqD_bb, eqD_ii, eqD_ss, eqD_tt, eqD_ll, eqD_bi, eqD_ib, eqD_nt, eqD_tn, eqD_it, eqD_ti, eqD_ni, eqD_in, eqDs_nn, eqDs_cc, eqDs_nc, eqDs_cn, cmpD, cmpDs, depD, depDs, isNon, isNR, chainE, tvE, andV, orV, notV, ifE, slEV, ixR, callV, lenC, isiC, tyN, pick, retEV, callP, argD, argDs, seqS, bkS, ctS, exprS, retS, retNS, ifS, evSl, setS, SK.loop, gN, gNil, gCons, gT, asgS, parS, defF, defK, raiseS, absC, divmodC, mmC, stL, itL, itT, itR1, itR2, itE, shL, itZ, itV, forS, evD, methL, appL, clrL, popL, insL, trL, extL, setixS, argS, argSs, callI, callN, hereA, nextA, negE, itS, wipeR, compE, compD, yesT, seqD, listC, tupC, numd, zipd, nxS, frSl, retSl, retSls, retOk, retOks, tryAsS, tryOnlyS, lookB, kinE, xfE, lookF, frzE, isTR, isTB, allC, blsD, gU, raiseIS, at0, at1, at2, at3, inR, cmpO, heldR, appT, lrE, sortC, intC, intsD, slE, intO, cutD, eqXR, slX, addT, repT, compX, compDx, neYR, lrevE]
  cases gs with
  | nil =>
    simp [loopS, cE, vE, bE, rE, fE, mE, bin, nilA, consA, bT, andT, orT, notT, tupE, lstE, allV, allM, okB, intR, addR, asL, asT, asD, eqR, eqD_nn, eqD_bb, eqD_ii, eqD_ss, eqD_tt, eqD_ll, eqD_bi, eqD_ib, eqD_nt, eqD_tn, eqD_it, eqD_ti, eqD_ni, eqD_in, eqDs_nn, eqDs_cc, eqDs_nc, eqDs_cn, cmpD, cmpDs, depD, depDs, isNon, isNR, chainE, tvE, andV, orV, notV, ifE, slEV, ixR, callV, lenC, isiC, tyN, pick, retEV, callP, argD, argDs, seqS, bkS, ctS, exprS, retS, retNS, ifS, evSl, setS, SK.loop, gN, gNil, gCons, gT, asgS, parS, defF, defK, raiseS, absC, divmodC, mmC, stL, itL, itT, itR1, itR2, itE, shL, itZ, itV, forS, evD, methL, appL, clrL, popL, insL, trL, extL, setixS, argS, argSs, callI, callN, hereA, nextA, negE, itS, wipeR, compE, compD, yesT, seqD, listC, tupC, numd, zipd, nxS, frSl, retSl, retSls, retOk, retOks, tryAsS, tryOnlyS, lookB, kinE, xfE, lookF, frzE, isTR, isTB, allC, blsD, gU, raiseIS, at0, at1, at2, at3, inR, cmpO, heldR, appT, lrE, sortC, intC, intsD, slE, intO, cutD, eqXR, slX, addT, repT, compX, compDx, neYR, lrevE]
    exact h
  | cons y0 r0 =>
  generalize hgs : y0 :: r0 = gs at *
  have hm0 : mrg t gs = mgo t y0 r0 := by rw [← hgs]; rfl
  refine loop_inv (fun j ρ => ∃ x2, (j = 0 ∧ ρ = [.v (.lst st (gs.map (clD t))), .l [], x2]) ∨ ∃ done y, ρ = [.v (.lst st (gs.map (clD t))), .l ((done ++ [y]).map (clD t)), x2] ∧ mrg t gs = done ++ mgo t y (gs.drop j) ∧ RowOk (y :: gs.drop j) ∧ Chn ct_ (y :: gs.drop j) ∧ done.length + 1 ≤ j) ⟨.no, .inl ⟨rfl, rfl⟩⟩ ?_ ?_
  · rintro j e ρ K2 he ⟨x2, hh⟩ next
    rw [List.getElem?_map] at he
    obtain ⟨x, hx, rfl⟩ := Option.map_eq_some_iff.mp he
    obtain ⟨hj, ex⟩ := List.getElem?_eq_some_iff.mp hx
    rcases hh with ⟨rfl, rfl⟩ | ⟨done, y, rfl, hm, ho, hc, hd⟩
    · have e0 : y0 = x := by subst hgs; simpa using ex
      subst e0
      simp [cE, vE, bE, rE, fE, mE, bin, nilA, consA, bT, andT, orT, notT, tupE, lstE, allV, allM, okB, intR, addR, asL, asT, asD, eqR, eqD_nn, eqD_bb, eqD_ii, eqD_ss, eqD_tt, eqD_ll, eqD_bi, eqD_ib, eqD_nt, eqD_tn, eqD_it, eqD_ti, eqD_ni, eqD_in, eqDs_nn, eqDs_cc, eqDs_nc, eqDs_cn, cmpD, cmpDs, depD, depDs, isNon, isNR, chainE, tvE, andV, orV, notV, ifE, slEV, ixR, callV, lenC, isiC, tyN, pick, retEV, callP, argD, argDs, seqS, bkS, ctS, exprS, retS, retNS, ifS, evSl, setS, SK.loop, gN, gNil, gCons, gT, asgS, parS, defF, defK, raiseS, absC, divmodC, mmC, stL, itL, itT, itR1, itR2, itE, shL, itZ, itV, forS, evD, methL, appL, clrL, popL, insL, trL, extL, setixS, argS, argSs, callI, callN, hereA, nextA, negE, itS, wipeR, compE, compD, yesT, seqD, listC, tupC, numd, zipd, nxS, frSl, retSl, retSls, retOk, retOks, tryAsS, tryOnlyS, lookB, kinE, xfE, lookF, frzE, isTR, isTB, allC, blsD, gU, raiseIS, at0, at1, at2, at3, inR, cmpO, heldR, appT, lrE, sortC, intC, intsD, slE, intO, cutD, eqXR, slX, addT, repT, compX, compDx, neYR, lrevE]
      have d1 : gs.drop (0 + 1) = r0 := by subst hgs; rfl
      refine next _ ⟨_, .inr ⟨[], y0, rfl, ?_, ?_, ?_, by simp⟩⟩
      · rw [d1, hm0]; rfl
      · rw [d1, hgs]; exact ok
      · rw [d1, hgs]; exact ct
    · rw [List.drop_eq_getElem_cons hj, ex] at hm ho hc
      have ne : eqDs ((done ++ [y]).map (clD t)) [] = false := by cases done <;> simp [eqDs]
      have cc := cmp_cl (t := t) (done ++ [y])
      have al : L2.atI ((done ++ [y]).map (clD t)) (-1) = some (clD t y) := by rw [List.map_append]; exact at_last
      have gy := ho.g List.mem_cons_self
      have gx := ho.g (List.mem_cons_of_mem _ List.mem_cons_self)
      have lst_ : L2.ixN ((done ++ [y]).map (clD t)).length (-1) = some done.length := by
        rw [List.length_map, List.length_append]; exact ix_last
      have stl : ∀ z : Gp, ((done ++ [y]).map (clD t)).set done.length (clD t z) = (done ++ [z]).map (clD t) := fun z => by
        rw [List.map_append, List.map_append]
        have := set_last (xs := done.map (clD t)) (y := clD t y) (z := clD t z)
        rw [List.length_map] at this
        exact this
      generalize hL : (done ++ [y]).map (clD t) = L at *
      have hLl : L.length = done.length + 1 := by rw [← hL]; simp
      have a2 : ∀ z : Gp, L2.atI [D.int (z.1 : Nat), D.int (lastI z), frD (gp z.2 t), frD (gu z.2), D.int (gM z.2)] 2 = some (frD (gp z.2 t)) := fun z => at2
      simp [cE, vE, bE, rE, fE, mE, bin, nilA, consA, bT, andT, orT, notT, tupE, lstE, allV, allM, okB, intR, addR, asL, asT, asD, eqR, eqD_nn, eqD_bb, eqD_ii, eqD_ss, eqD_tt, eqD_ll, eqD_bi, eqD_ib, eqD_nt, eqD_tn, eqD_it, eqD_ti, eqD_ni, eqD_in, eqDs_nn, eqDs_cc, eqDs_nc, eqDs_cn, cmpD, cmpDs, depD, depDs, isNon, isNR, chainE, tvE, andV, orV, notV, ifE, slEV, ixR, callV, lenC, isiC, tyN, pick, retEV, callP, argD, argDs, seqS, bkS, ctS, exprS, retS, retNS, ifS, evSl, setS, SK.loop, gN, gNil, gCons, gT, asgS, parS, defF, defK, raiseS, absC, divmodC, mmC, stL, itL, itT, itR1, itR2, itE, shL, itZ, itV, forS, evD, methL, appL, clrL, popL, insL, trL, extL, setixS, argS, argSs, callI, callN, hereA, nextA, negE, itS, wipeR, compE, compD, yesT, seqD, listC, tupC, numd, zipd, nxS, frSl, retSl, retSls, retOk, retOks, tryAsS, tryOnlyS, lookB, kinE, xfE, lookF, frzE, isTR, isTB, allC, blsD, gU, raiseIS, at0, at1, at2, at3, inR, cmpO, heldR, appT, lrE, sortC, intC, intsD, slE, intO, cutD, eqXR, slX, addT, repT, compX, compDx, neYR, lrevE, ne, cc, al, clD, at2, rat_eq]
      by_cases c : gp y.2 t = gp x.2 t
      · rw [if_pos c]
        refine ⟨t, y, x, rfl, ⟨gy, gx, hc.1, c⟩, ?_⟩
        simp [cE, vE, bE, rE, fE, mE, bin, nilA, consA, bT, andT, orT, notT, tupE, lstE, allV, allM, okB, intR, addR, asL, asT, asD, eqR, eqD_nn, eqD_bb, eqD_ii, eqD_ss, eqD_tt, eqD_ll, eqD_bi, eqD_ib, eqD_nt, eqD_tn, eqD_it, eqD_ti, eqD_ni, eqD_in, eqDs_nn, eqDs_cc, eqDs_nc, eqDs_cn, cmpD, cmpDs, depD, depDs, isNon, isNR, chainE, tvE, andV, orV, notV, ifE, slEV, ixR, callV, lenC, isiC, tyN, pick, retEV, callP, argD, argDs, seqS, bkS, ctS, exprS, retS, retNS, ifS, evSl, setS, SK.loop, gN, gNil, gCons, gT, asgS, parS, defF, defK, raiseS, absC, divmodC, mmC, stL, itL, itT, itR1, itR2, itE, shL, itZ, itV, forS, evD, methL, appL, clrL, popL, insL, trL, extL, setixS, argS, argSs, callI, callN, hereA, nextA, negE, itS, wipeR, compE, compD, yesT, seqD, listC, tupC, numd, zipd, nxS, frSl, retSl, retSls, retOk, retOks, tryAsS, tryOnlyS, lookB, kinE, xfE, lookF, frzE, isTR, isTB, allC, blsD, gU, raiseIS, at0, at1, at2, at3, inR, cmpO, heldR, appT, lrE, sortC, intC, intsD, slE, intO, cutD, eqXR, slX, addT, repT, compX, compDx, neYR, lrevE, lst_]
        have e1 : mgo t y (x :: gs.drop (j + 1)) = mgo t (y.1, y.2 ++ x.2) (gs.drop (j + 1)) := by rw [mgo, if_pos c]
        exact next _ ⟨.v (clD t x), .inr ⟨done, (y.1, y.2 ++ x.2), by rw [stl]; rfl, by rw [hm, e1], ho.join, ct_join hc, by omega⟩⟩
      · rw [if_neg c]
        have e1 : mgo t y (x :: gs.drop (j + 1)) = y :: mgo t x (gs.drop (j + 1)) := by rw [mgo, if_neg c]
        refine ⟨by omega, next _ ⟨.v (clD t x), .inr ⟨done ++ [y], x, ?_, by rw [hm, e1]; simp, ho.tail, hc.2, by simp; omega⟩⟩⟩
        rw [List.map_append, hL]
        rfl
  · rintro ρ ⟨x2, hh⟩
    rw [List.length_map] at hh
    rcases hh with ⟨e, _⟩ | ⟨done, y, rfl, hm, ho, hc, hd⟩
    · rw [← hgs] at e; simp at e
    · rw [List.drop_length] at hm
      have : mgo t y [] = [y] := rfl
      rw [this] at hm
      rw [hm] at h
      exact ⟨⟨retOks_cl _, rfl⟩, h⟩
theorem tms_sm {t : Rat} (ht : Sm 610 t) : ∀ {gs : List Gp}, RowOk gs → (∀ q ∈ tms t gs, Sm 1900 q) ∧ (tms t gs).length ≤ gs.length
  | [], _ => by simp [tms]
  | [_], _ => by simp [tms]
  | x :: y :: r, ok => by
    have gx := ok.g List.mem_cons_self
    have gy := ok.g (List.mem_cons_of_mem _ List.mem_cons_self)
    obtain ⟨h1, h2⟩ := tms_sm ht (gs := y :: r) ok.tail
    have e : tms t (x :: y :: r) = (if gu y.2 < gu x.2 then [(gp y.2 t - gp x.2 t) / (gu x.2 - gu y.2)] else []) ++ tms t (y :: r) := rfl
    rw [e]
    refine ⟨fun q hq => ?_, ?_⟩
    · rcases List.mem_append.mp hq with z | z
      · split at z
        · rename_i c
          rw [List.mem_singleton.mp z]
          exact (((gp_sm gy ht).sub (gp_sm gx ht)).quo ((gu_sm gx).sub (gu_sm gy)) (by grind)).mono (by decide)
        · simp at z
      · exact h1 q z
    · split <;> simp at h2 ⊢ <;> omega
theorem to_next_moment : ∀ ss K E, F_next_moment ss K E → defF [false, false] 3 sf_next_moment ss K E := fun ss K E h => by
  obtain ⟨st, gs, t, rfl, ⟨ok, hl, ht⟩, h⟩ := h
  obtain ⟨h1, h2⟩ := tms_sm ht ok
  simp [sf_next_moment, cE, vE, bE, rE, fE, mE, bin, nilA, consA, bT, andT, orT, notT, tupE, lstE, allV, allM, okB, intR, addR, asL, asT, asD, eqR, eqD_nn, eqD_bb, eqD_ii, eqD_ss, eqD_tt, eqD_ll, eqD_bi, eqD_ib, eqD_nt, eqD_tn, eqD_it, eqD_ti, eqD_ni, eqD_in, eqDs_nn, eqDs_cc, eqDs_nc, eqDs_cn, cmpD, cmpDs, depD, depDs, isNon, isNR, chainE, tvE, andV, orV, notV, ifE, slEV, ixR, callV, lenC, isiC, tyN, pick, retEV, callP, argD, argDs, seqS, bkS, ctS, exprS, retS, retNS, ifS, evSl, setS, SK.loop, gN, gNil, gCons, gT, asgS, parS, defF, defK, raiseS, absC, divmodC, mmC, stL, itL, itT, itR1, itR2, itE, shL, itZ, itV, forS, evD, methL, appL, clrL, popL, insL, trL, extL, setixS, argS, argSs, callI, callN, hereA, nextA, negE, itS, wipeR, compE, compD, yesT, seqD, listC, tupC, numd, zipd, nxS, frSl, retSl, retSls, retOk, retOks, tryAsS, tryOnlyS, lookB, kinE, xfE, lookF, frzE, isTR, isTB, allC, blsD, gU, raiseIS, at0, at1, at2, at3, inR, cmpO, heldR, appT, lrE, sortC, intC, intsD, slE, intO, cutD, eqXR, slX, addT, repT, compX, compDx, neYR, lrevE]
  refine ⟨st, gs, t, rfl, ⟨ok, hl, ht⟩, ?_⟩
  simp [cE, vE, bE, rE, fE, mE, bin, nilA, consA, bT, andT, orT, notT, tupE, lstE, allV, allM, okB, intR, addR, asL, asT, asD, eqR, eqD_nn, eqD_bb, eqD_ii, eqD_ss, eqD_tt, eqD_ll, eqD_bi, eqD_ib, eqD_nt, eqD_tn, eqD_it, eqD_ti, eqD_ni, eqD_in, eqDs_nn, eqDs_cc, eqDs_nc, eqDs_cn, cmpD, cmpDs, depD, depDs, isNon, isNR, chainE, tvE, andV, orV, notV, ifE, slEV, ixR, callV, lenC, isiC, tyN, pick, retEV, callP, argD, argDs, seqS, bkS, ctS, exprS, retS, retNS, ifS, evSl, setS, SK.loop, gN, gNil, gCons, gT, asgS, parS, defF, defK, raiseS, absC, divmodC, mmC, stL, itL, itT, itR1, itR2, itE, shL, itZ, itV, forS, evD, methL, appL, clrL, popL, insL, trL, extL, setixS, argS, argSs, callI, callN, hereA, nextA, negE, itS, wipeR, compE, compD, yesT, seqD, listC, tupC, numd, zipd, nxS, frSl, retSl, retSls, retOk, retOks, tryAsS, tryOnlyS, lookB, kinE, xfE, lookF, frzE, isTR, isTB, allC, blsD, gU, raiseIS, at0, at1, at2, at3, inR, cmpO, heldR, appT, lrE, sortC, intC, intsD, slE, intO, cutD, eqXR, slX, addT, repT, compX, compDx, neYR, lrevE]
  refine ⟨_, tms t gs, rfl, ⟨by omega, fun q hq => (h1 q hq).mono (by decide)⟩, ?_⟩
  cases e : least none (tms t gs) with
  | none =>
    have e2 : nxt t gs = none := by unfold nxt; rw [e]; rfl
    rw [e2] at h
    simp [cE, vE, bE, rE, fE, mE, bin, nilA, consA, bT, andT, orT, notT, tupE, lstE, allV, allM, okB, intR, addR, asL, asT, asD, eqR, eqD_nn, eqD_bb, eqD_ii, eqD_ss, eqD_tt, eqD_ll, eqD_bi, eqD_ib, eqD_nt, eqD_tn, eqD_it, eqD_ti, eqD_ni, eqD_in, eqDs_nn, eqDs_cc, eqDs_nc, eqDs_cn, cmpD, cmpDs, depD, depDs, isNon, isNR, chainE, tvE, andV, orV, notV, ifE, slEV, ixR, callV, lenC, isiC, tyN, pick, retEV, callP, argD, argDs, seqS, bkS, ctS, exprS, retS, retNS, ifS, evSl, setS, SK.loop, gN, gNil, gCons, gT, asgS, parS, defF, defK, raiseS, absC, divmodC, mmC, stL, itL, itT, itR1, itR2, itE, shL, itZ, itV, forS, evD, methL, appL, clrL, popL, insL, trL, extL, setixS, argS, argSs, callI, callN, hereA, nextA, negE, itS, wipeR, compE, compD, yesT, seqD, listC, tupC, numd, zipd, nxS, frSl, retSl, retSls, retOk, retOks, tryAsS, tryOnlyS, lookB, kinE, xfE, lookF, frzE, isTR, isTB, allC, blsD, gU, raiseIS, at0, at1, at2, at3, inR, cmpO, heldR, appT, lrE, sortC, intC, intsD, slE, intO, cutD, eqXR, slX, addT, repT, compX, compDx, neYR, lrevE, optQ, isNon]
    exact h
  | some m =>
    have e2 : nxt t gs = some (t + m) := by unfold nxt; rw [e]; rfl
    rw [e2] at h
    obtain ⟨_, _, h3⟩ := least_spec _ _ _ e
    have sm := h1 m (h3.resolve_right (fun z => nomatch z))
    have ht' : Sm 1900 t := ht.mono (by decide)
    simp [cE, vE, bE, rE, fE, mE, bin, nilA, consA, bT, andT, orT, notT, tupE, lstE, allV, allM, okB, intR, addR, asL, asT, asD, eqR, eqD_nn, eqD_bb, eqD_ii, eqD_ss, eqD_tt, eqD_ll, eqD_bi, eqD_ib, eqD_nt, eqD_tn, eqD_it, eqD_ti, eqD_ni, eqD_in, eqDs_nn, eqDs_cc, eqDs_nc, eqDs_cn, cmpD, cmpDs, depD, depDs, isNon, isNR, chainE, tvE, andV, orV, notV, ifE, slEV, ixR, callV, lenC, isiC, tyN, pick, retEV, callP, argD, argDs, seqS, bkS, ctS, exprS, retS, retNS, ifS, evSl, setS, SK.loop, gN, gNil, gCons, gT, asgS, parS, defF, defK, raiseS, absC, divmodC, mmC, stL, itL, itT, itR1, itR2, itE, shL, itZ, itV, forS, evD, methL, appL, clrL, popL, insL, trL, extL, setixS, argS, argSs, callI, callN, hereA, nextA, negE, itS, wipeR, compE, compD, yesT, seqD, listC, tupC, numd, zipd, nxS, frSl, retSl, retSls, retOk, retOks, tryAsS, tryOnlyS, lookB, kinE, xfE, lookF, frzE, isTR, isTB, allC, blsD, gU, raiseIS, at0, at1, at2, at3, inR, cmpO, heldR, appT, lrE, sortC, intC, intsD, slE, intO, cutD, eqXR, slX, addT, repT, compX, compDx, neYR, lrevE, optQ, isNon, F_plus, F_two, Rat.den_nz, nd]
    refine ⟨by (repeat' with_reducible apply And.intro) <;> try first | assumption | exact Sm.n (by assumption) | exact Sm.d (by assumption) | exact Si.mono (by assumption) (by decide) | exact dpos _ | exact Rat.nz _ | exact Rat.den_nz _, h⟩
def keyD (x : Gp) : D := .tup [.int (x.1 : Nat), .int (lastI x)]
theorem comp_all {α : Type} {own : List Nat} {g : GS} {t : BS} {f : ES} {ρ : Rho} (u v : α → D) (step : ∀ (a : α) (acc ds : List D) (K : List D → Prop), compD own g t f ρ ds (acc ++ [v a]) K → compD own g t f ρ (u a :: ds) acc K) :
    ∀ (xs : List α) (acc : List D) (K : List D → Prop), K (acc ++ xs.map v) → compD own g t f ρ (xs.map u) acc K
  | [], acc, K, k => by simpa [compD] using k
  | d :: ds, acc, K, k => step d acc _ K (comp_all u v step ds (acc ++ [v d]) K (by simpa using k))
theorem comp_pick {α : Type} {own : List Nat} {g : GS} {t : BS} {f : ES} {ρ : Rho} (u v : α → D) (q : α → Bool) (step : ∀ (a : α) (acc ds : List D) (K : List D → Prop), compD own g t f ρ ds (if q a then acc ++ [v a] else acc) K → compD own g t f ρ (u a :: ds) acc K) :
    ∀ (xs : List α) (acc : List D) (K : List D → Prop), K (acc ++ (xs.filter q).map v) → compD own g t f ρ (xs.map u) acc K
  | [], acc, K, k => by simpa [compD] using k
  | b :: bs, acc, K, k => by
    rw [List.map_cons]
    refine step b acc _ K (comp_pick u v q step bs _ K ?_)
    by_cases z : q b = true
    · rw [if_pos z]
      rw [List.filter_cons_of_pos z] at k
      simpa using k
    · rw [if_neg z]
      rw [List.filter_cons_of_neg z] at k
      exact k
theorem any_key (gs : List Gp) (x : Gp) : ((gs.map keyD).any fun z => eqD z (keyD x)) = (gs.any fun y => ((y.1 : Nat) : Int) == ((x.1 : Nat) : Int) && lastI y == lastI x) := by
  rw [List.any_map]
  congr 1
  funext y
  simp [keyD, eqD_tt, eqDs_cc, eqD_ii, eqDs_nn]
theorem cmp_key : ∀ gs : List Gp, cmpDs (gs.map keyD) = true
  | [] => rfl
  | x :: gs => by simp [cmpDs, cmp_key gs, cmpD, keyD]
theorem mrg_len {t : Rat} {gs : List Gp} : (mrg t gs).length ≤ gs.length := by
  cases gs with
  | nil => exact Nat.le_refl _
  | cons y r => exact mgo_len r y
theorem to_stuck_on : ∀ ss K E, F_stuck_on ss K E → defF [false, false, false] 7 sf_stuck_on ss K E := fun ss K E h => by
  obtain ⟨st, gs, t, t', rfl, ⟨ok, hl, ct, ht, ht'⟩, h⟩ := h
  have s1 := ht'.sub ht
  simp [sf_stuck_on, cE, vE, bE, rE, fE, mE, bin, nilA, consA, bT, andT, orT, notT, tupE, lstE, allV, allM, okB, intR, addR, asL, asT, asD, eqR, eqD_nn, eqD_bb, eqD_ii, eqD_ss, eqD_tt, eqD_ll, eqD_bi, eqD_ib, eqD_nt, eqD_tn, eqD_it, eqD_ti, eqD_ni, eqD_in, eqDs_nn, eqDs_cc, eqDs_nc, eqDs_cn, cmpD, cmpDs, depD, depDs, isNon, isNR, chainE, tvE, andV, orV, notV, ifE, slEV, ixR, callV, lenC, isiC, tyN, pick, retEV, callP, argD, argDs, seqS, bkS, ctS, exprS, retS, retNS, ifS, evSl, setS, SK.loop, gN, gNil, gCons, gT, asgS, parS, defF, defK, raiseS, absC, divmodC, mmC, stL, itL, itT, itR1, itR2, itE, shL, itZ, itV, forS, evD, methL, appL, clrL, popL, insL, trL, extL, setixS, argS, argSs, callI, callN, hereA, nextA, negE, itS, wipeR, yesT, seqD, listC, tupC, numd, zipd, nxS, frSl, retSl, retSls, retOk, retOks, tryAsS, tryOnlyS, lookB, kinE, xfE, lookF, frzE, isTR, isTB, allC, blsD, gU, raiseIS, at0, at1, at2, at3, inR, cmpO, heldR, appT, lrE, sortC, intC, intsD, slE, intO, cutD, eqXR, slX, addT, repT, compX, compDx, neYR, lrevE, compE, F_minus, F_two, Rat.den_nz, nd]
  refine ⟨by (repeat' with_reducible apply And.intro) <;> try first | assumption | exact Sm.n (by assumption) | exact Sm.d (by assumption) | exact Si.mono (by assumption) (by decide) | exact dpos _ | exact Rat.nz _ | exact Rat.den_nz _, ?_⟩
  have et : t + (t' - t) = t' := by grind
  refine ⟨st, gs, t, t' - t, rfl, ⟨ok, hl, ht, s1⟩, ?_⟩
  rw [et]
  simp [cE, vE, bE, rE, fE, mE, bin, nilA, consA, bT, andT, orT, notT, tupE, lstE, allV, allM, okB, intR, addR, asL, asT, asD, eqR, eqD_nn, eqD_bb, eqD_ii, eqD_ss, eqD_tt, eqD_ll, eqD_bi, eqD_ib, eqD_nt, eqD_tn, eqD_it, eqD_ti, eqD_ni, eqD_in, eqDs_nn, eqDs_cc, eqDs_nc, eqDs_cn, cmpD, cmpDs, depD, depDs, isNon, isNR, chainE, tvE, andV, orV, notV, ifE, slEV, ixR, callV, lenC, isiC, tyN, pick, retEV, callP, argD, argDs, seqS, bkS, ctS, exprS, retS, retNS, ifS, evSl, setS, SK.loop, gN, gNil, gCons, gT, asgS, parS, defF, defK, raiseS, absC, divmodC, mmC, stL, itL, itT, itR1, itR2, itE, shL, itZ, itV, forS, evD, methL, appL, clrL, popL, insL, trL, extL, setixS, argS, argSs, callI, callN, hereA, nextA, negE, itS, wipeR, yesT, seqD, listC, tupC, numd, zipd, nxS, frSl, retSl, retSls, retOk, retOks, tryAsS, tryOnlyS, lookB, kinE, xfE, lookF, frzE, isTR, isTB, allC, blsD, gU, raiseIS, at0, at1, at2, at3, inR, cmpO, heldR, appT, lrE, sortC, intC, intsD, slE, intO, cutD, eqXR, slX, addT, repT, compX, compDx, neYR, lrevE, compE]
  refine ⟨_, gs, t', rfl, ⟨ok, hl, ct⟩, ?_⟩
  simp [cE, vE, bE, rE, fE, mE, bin, nilA, consA, bT, andT, orT, notT, tupE, lstE, allV, allM, okB, intR, addR, asL, asT, asD, eqR, eqD_nn, eqD_bb, eqD_ii, eqD_ss, eqD_tt, eqD_ll, eqD_bi, eqD_ib, eqD_nt, eqD_tn, eqD_it, eqD_ti, eqD_ni, eqD_in, eqDs_nn, eqDs_cc, eqDs_nc, eqDs_cn, cmpD, cmpDs, depD, depDs, isNon, isNR, chainE, tvE, andV, orV, notV, ifE, slEV, ixR, callV, lenC, isiC, tyN, pick, retEV, callP, argD, argDs, seqS, bkS, ctS, exprS, retS, retNS, ifS, evSl, setS, SK.loop, gN, gNil, gCons, gT, asgS, parS, defF, defK, raiseS, absC, divmodC, mmC, stL, itL, itT, itR1, itR2, itE, shL, itZ, itV, forS, evD, methL, appL, clrL, popL, insL, trL, extL, setixS, argS, argSs, callI, callN, hereA, nextA, negE, itS, wipeR, yesT, seqD, listC, tupC, numd, zipd, nxS, frSl, retSl, retSls, retOk, retOks, tryAsS, tryOnlyS, lookB, kinE, xfE, lookF, frzE, isTR, isTB, allC, blsD, gU, raiseIS, at0, at1, at2, at3, inR, cmpO, heldR, appT, lrE, sortC, intC, intsD, slE, intO, cutD, eqXR, slX, addT, repT, compX, compDx, neYR, lrevE, compE]
  refine ⟨by omega, comp_all (clD t') keyD (fun x acc ds K ih => ?_) gs [] _ ?_⟩
  · simp [cE, vE, bE, rE, fE, mE, bin, nilA, consA, bT, andT, orT, notT, tupE, lstE, allV, allM, okB, intR, addR, asL, asT, asD, eqR, eqD_nn, eqD_bb, eqD_ii, eqD_ss, eqD_tt, eqD_ll, eqD_bi, eqD_ib, eqD_nt, eqD_tn, eqD_it, eqD_ti, eqD_ni, eqD_in, eqDs_nn, eqDs_cc, eqDs_nc, eqDs_cn, cmpD, cmpDs, depD, depDs, isNon, isNR, chainE, tvE, andV, orV, notV, ifE, slEV, ixR, callV, lenC, isiC, tyN, pick, retEV, callP, argD, argDs, seqS, bkS, ctS, exprS, retS, retNS, ifS, evSl, setS, SK.loop, gN, gNil, gCons, gT, asgS, parS, defF, defK, raiseS, absC, divmodC, mmC, stL, itL, itT, itR1, itR2, itE, shL, itZ, itV, forS, evD, methL, appL, clrL, popL, insL, trL, extL, setixS, argS, argSs, callI, callN, hereA, nextA, negE, itS, wipeR, compE, compD, yesT, seqD, listC, tupC, numd, zipd, nxS, frSl, retSl, retSls, retOk, retOks, tryAsS, tryOnlyS, lookB, kinE, xfE, lookF, frzE, isTR, isTB, allC, blsD, gU, raiseIS, at0, at1, at2, at3, inR, cmpO, heldR, appT, lrE, sortC, intC, intsD, slE, intO, cutD, eqXR, slX, addT, repT, compX, compDx, neYR, lrevE, clD, HT.sIx] at ih ⊢
    exact ih
  · rw [List.nil_append]
    have ml := mrg_len (t := t') (gs := gs)
    refine ⟨by omega, comp_pick (clD t') (clD t') (fresh gs) (fun x acc ds K ih => ?_) (mrg t' gs) [] _ ?_⟩
    · have ck := cmp_key gs
      have ak := any_key gs x
      have fr : fresh gs x = !((gs.map keyD).any fun z => eqD z (keyD x)) := by rw [ak]; rfl
      generalize gs.map keyD = L at *
      have ek : keyD x = .tup [.int (x.1 : Nat), .int (lastI x)] := rfl
      rw [ek] at fr
      simp only [clD] at ih ⊢
      simp [cE, vE, bE, rE, fE, mE, bin, nilA, consA, bT, andT, orT, notT, tupE, lstE, allV, allM, okB, intR, addR, asL, asT, asD, eqR, eqD_nn, eqD_bb, eqD_ii, eqD_ss, eqD_tt, eqD_ll, eqD_bi, eqD_ib, eqD_nt, eqD_tn, eqD_it, eqD_ti, eqD_ni, eqD_in, eqDs_nn, eqDs_cc, eqDs_nc, eqDs_cn, cmpD, cmpDs, depD, depDs, isNon, isNR, chainE, tvE, andV, orV, notV, ifE, slEV, ixR, callV, lenC, isiC, tyN, pick, retEV, callP, argD, argDs, seqS, bkS, ctS, exprS, retS, retNS, ifS, evSl, setS, SK.loop, gN, gNil, gCons, gT, asgS, parS, defF, defK, raiseS, absC, divmodC, mmC, stL, itL, itT, itR1, itR2, itE, shL, itZ, itV, forS, evD, methL, appL, clrL, popL, insL, trL, extL, setixS, argS, argSs, callI, callN, hereA, nextA, negE, itS, wipeR, compE, compD, yesT, seqD, listC, tupC, numd, zipd, nxS, frSl, retSl, retSls, retOk, retOks, tryAsS, tryOnlyS, lookB, kinE, xfE, lookF, frzE, isTR, isTB, allC, blsD, gU, raiseIS, at0, at1, at2, at3, inR, cmpO, heldR, appT, lrE, sortC, intC, intsD, slE, intO, cutD, eqXR, slX, addT, repT, compX, compDx, neYR, lrevE, HT.sIx, ck]
      have fi : fresh gs x = true ↔ ∀ z, z ∈ L → eqD z (.tup [.int (x.1 : Nat), .int (lastI x)]) = false := by rw [fr]; simp
      refine ⟨by omega, ?_⟩
      by_cases c : fresh gs x = true
      · rw [if_pos c] at ih
        rw [if_pos (fi.mp c)]
        exact ih
      · rw [if_neg c] at ih
        rw [if_neg (fun z => c (fi.mpr z))]
        exact ih
    · rw [List.nil_append]
      exact ⟨⟨retOks_cl _, retOks_cl _⟩, h⟩
theorem while_m {t : BS} {f : SS} {k : SK} {ρ : Rho} {n : Nat} (I : Nat → Rho → Prop) (h0 : I n ρ) (step : ∀ (m : Nat) (ρ : Rho) (K' : Rho → Prop), I m ρ → (∀ m' ρ', m' < m → I m' ρ' → K' ρ') → t ρ (fun b ρ1 => if b = true then f ρ1 (k.loop K') else k.nx ρ1) k.ex) : whileS t f ρ k := by
  refine ⟨n + 1, ?_⟩
  have go : ∀ (l m : Nat) (ρ : Rho), m < l → I m ρ → whileN t f l ρ k := fun l => by
    induction l with
    | zero => intro m ρ h; omega
    | succ l ih => exact fun m ρ h hi => step m ρ _ hi fun m' ρ' h1 h2 => ih m' ρ' (by omega) h2
  exact go (n + 1) n ρ (by omega) h0
theorem flat_len : ∀ {gs : List Gp}, (∀ x ∈ gs, x.2 ≠ []) → gs.length ≤ (gs.flatMap (·.2)).length
  | [], _ => by simp
  | x :: gs, h => by
    have h1 := flat_len (gs := gs) fun y hy => h y (List.mem_cons_of_mem _ hy)
    have h2 : 0 < x.2.length := List.length_pos_iff.mpr (h x List.mem_cons_self)
    rw [List.flatMap_cons, List.length_append, List.length_cons]
    omega
theorem CI.len {bs : List Bw} {t : Rat} {gs : List Gp} (c : CI bs t gs) : gs.length ≤ 12 := by
  have h1 := flat_len (gs := gs) fun x hx => (c.ok.1 x hx)
  have := c.ok.2.le
  omega
theorem tms_at {t m : Rat} : ∀ {gs : List Gp}, RowOk gs → m ∈ tms t gs → Sm 604 (t + m)
  | [], _, h => by simp [tms] at h
  | [_], _, h => by simp [tms] at h
  | x :: y :: r, ok, h => by
    have h' : m ∈ (if gu y.2 < gu x.2 then [(gp y.2 t - gp x.2 t) / (gu x.2 - gu y.2)] else []) ++ tms t (y :: r) := h
    rcases List.mem_append.mp h' with z | z
    · split at z
      · rename_i c
        rw [List.mem_singleton.mp z, mt_eq c]
        exact mt_sm (ok.g List.mem_cons_self) (ok.g (List.mem_cons_of_mem _ List.mem_cons_self)) c
      · simp at z
    · exact tms_at ok.tail z
theorem nxt_sm {t t' : Rat} {gs : List Gp} (ok : RowOk gs) (h : nxt t gs = some t') : Sm 604 t' := by
  unfold nxt at h
  obtain ⟨m, hm, rfl⟩ := Option.map_eq_some_iff.mp h
  obtain ⟨_, _, h3⟩ := least_spec _ _ _ hm
  exact tms_at ok (h3.resolve_right (fun z => nomatch z))
theorem to_stuck_run : ∀ ss K E, F_stuck_run ss K E → defF [false] 11 sf_stuck_run ss K E := fun ss K E h => by
  obtain ⟨st, bs, rfl, cw, h⟩ := h
  have ci := cw.ci
  simp [sf_stuck_run, cE, vE, bE, rE, fE, mE, bin, nilA, consA, bT, andT, orT, notT, tupE, lstE, allV, allM, okB, intR, addR, asL, asT, asD, eqR, eqD_nn, eqD_bb, eqD_ii, eqD_ss, eqD_tt, eqD_ll, eqD_bi, eqD_ib, eqD_nt, eqD_tn, eqD_it, eqD_ti, eqD_ni, eqD_in, eqDs_nn, eqDs_cc, eqDs_nc, eqDs_cn, cmpD, cmpDs, depD, depDs, isNon, isNR, chainE, tvE, andV, orV, notV, ifE, slEV, ixR, callV, lenC, isiC, tyN, pick, retEV, callP, argD, argDs, seqS, bkS, ctS, exprS, retS, retNS, ifS, evSl, setS, SK.loop, gN, gNil, gCons, gT, asgS, parS, defF, defK, raiseS, absC, divmodC, mmC, stL, itL, itT, itR1, itR2, itE, shL, itZ, itV, forS, evD, methL, appL, clrL, popL, insL, trL, extL, setixS, argS, argSs, callI, callN, hereA, nextA, negE, itS, wipeR, yesT, seqD, listC, tupC, numd, zipd, nxS, frSl, retSl, retSls, retOk, retOks, tryAsS, tryOnlyS, lookB, kinE, xfE, lookF, frzE, isTR, isTB, allC, blsD, gU, raiseIS, at0, at1, at2, at3, inR, cmpO, heldR, appT, lrE, sortC, intC, intsD, slE, intO, cutD, eqXR, slX, addT, repT, compX, compDx, neYR, lrevE, compE, gv_NOUGHT]
  refine ⟨st, bs, rfl, ⟨by have := cw.le; omega, cw.ok⟩, ?_⟩
  simp [cE, vE, bE, rE, fE, mE, bin, nilA, consA, bT, andT, orT, notT, tupE, lstE, allV, allM, okB, intR, addR, asL, asT, asD, eqR, eqD_nn, eqD_bb, eqD_ii, eqD_ss, eqD_tt, eqD_ll, eqD_bi, eqD_ib, eqD_nt, eqD_tn, eqD_it, eqD_ti, eqD_ni, eqD_in, eqDs_nn, eqDs_cc, eqDs_nc, eqDs_cn, cmpD, cmpDs, depD, depDs, isNon, isNR, chainE, tvE, andV, orV, notV, ifE, slEV, ixR, callV, lenC, isiC, tyN, pick, retEV, callP, argD, argDs, seqS, bkS, ctS, exprS, retS, retNS, ifS, evSl, setS, SK.loop, gN, gNil, gCons, gT, asgS, parS, defF, defK, raiseS, absC, divmodC, mmC, stL, itL, itT, itR1, itR2, itE, shL, itZ, itV, forS, evD, methL, appL, clrL, popL, insL, trL, extL, setixS, argS, argSs, callI, callN, hereA, nextA, negE, itS, wipeR, yesT, seqD, listC, tupC, numd, zipd, nxS, frSl, retSl, retSls, retOk, retOks, tryAsS, tryOnlyS, lookB, kinE, xfE, lookF, frzE, isTR, isTB, allC, blsD, gU, raiseIS, at0, at1, at2, at3, inR, cmpO, heldR, appT, lrE, sortC, intC, intsD, slE, intO, cutD, eqXR, slX, addT, repT, compX, compDx, neYR, lrevE, compE]
  have z0 : Sm 604 (0 : Rat) := ⟨by unfold Si; decide, by unfold Si; decide⟩
  refine ⟨true, sng 0 bs, 0, rfl, ⟨ci.ok, by have := ci.len; omega, z0.mono (by decide)⟩, ?_⟩
  have ev : evSl (.v (optQ (nxt 0 (sng 0 bs)))) = some (.v (optQ (nxt 0 (sng 0 bs)))) := rfl
  simp [cE, vE, bE, rE, fE, mE, bin, nilA, consA, bT, andT, orT, notT, tupE, lstE, allV, allM, okB, intR, addR, asL, asT, asD, eqR, eqD_nn, eqD_bb, eqD_ii, eqD_ss, eqD_tt, eqD_ll, eqD_bi, eqD_ib, eqD_nt, eqD_tn, eqD_it, eqD_ti, eqD_ni, eqD_in, eqDs_nn, eqDs_cc, eqDs_nc, eqDs_cn, cmpD, cmpDs, depD, depDs, isNon, isNR, chainE, tvE, andV, orV, notV, ifE, slEV, ixR, callV, lenC, isiC, tyN, pick, retEV, callP, argD, argDs, seqS, bkS, ctS, exprS, retS, retNS, ifS, evSl, setS, SK.loop, gN, gNil, gCons, gT, asgS, parS, defF, defK, raiseS, absC, divmodC, mmC, stL, itL, itT, itR1, itR2, itE, shL, itZ, itV, forS, evD, methL, appL, clrL, popL, insL, trL, extL, setixS, argS, argSs, callI, callN, hereA, nextA, negE, itS, wipeR, yesT, seqD, listC, tupC, numd, zipd, nxS, frSl, retSl, retSls, retOk, retOks, tryAsS, tryOnlyS, lookB, kinE, xfE, lookF, frzE, isTR, isTB, allC, blsD, gU, raiseIS, at0, at1, at2, at3, inR, cmpO, heldR, appT, lrE, sortC, intC, intsD, slE, intO, cutD, eqXR, slX, addT, repT, compX, compDx, neYR, lrevE, compE]
  refine while_m (n := 12) (fun m ρ => ∃ t gs out x5, ρ = [.v (.lst st (bs.map wD)), .v (.lst true (gs.map (clD t))), .v (frD t), .l (out.map rnD), .v (optQ (nxt t gs)), x5, .no, .no, .no, .no, .no] ∧ gs.length ≤ m ∧ CI bs t gs ∧ Sm 604 t ∧ out ++ runG (m + 1) t gs = runG 13 0 (sng 0 bs) ∧ out.length ≤ 12 * (12 - gs.length)) ⟨0, sng 0 bs, [], .no, rfl, ci.len, ci, z0, rfl, by simp⟩ ?_
  rintro m ρ K3 ⟨t, gs, out, x5, rfl, hl, c, st_, ho, hol⟩ next
  have cl := c.len
  cases e : nxt t gs with
  | none =>
    have er : runG (m + 1) t gs = [] := by unfold runG; rw [e]
    rw [er, List.append_nil] at ho
    simp [cE, vE, bE, rE, fE, mE, bin, nilA, consA, bT, andT, orT, notT, tupE, lstE, allV, allM, okB, intR, addR, asL, asT, asD, eqR, eqD_nn, eqD_bb, eqD_ii, eqD_ss, eqD_tt, eqD_ll, eqD_bi, eqD_ib, eqD_nt, eqD_tn, eqD_it, eqD_ti, eqD_ni, eqD_in, eqDs_nn, eqDs_cc, eqDs_nc, eqDs_cn, cmpD, cmpDs, depD, depDs, isNon, isNR, chainE, tvE, andV, orV, notV, ifE, slEV, ixR, callV, lenC, isiC, tyN, pick, retEV, callP, argD, argDs, seqS, bkS, ctS, exprS, retS, retNS, ifS, evSl, setS, SK.loop, gN, gNil, gCons, gT, asgS, parS, defF, defK, raiseS, absC, divmodC, mmC, stL, itL, itT, itR1, itR2, itE, shL, itZ, itV, forS, evD, methL, appL, clrL, popL, insL, trL, extL, setixS, argS, argSs, callI, callN, hereA, nextA, negE, itS, wipeR, yesT, seqD, listC, tupC, numd, zipd, nxS, frSl, retSl, retSls, retOk, retOks, tryAsS, tryOnlyS, lookB, kinE, xfE, lookF, frzE, isTR, isTB, allC, blsD, gU, raiseIS, at0, at1, at2, at3, inR, cmpO, heldR, appT, lrE, sortC, intC, intsD, slE, intO, cutD, eqXR, slX, addT, repT, compX, compDx, neYR, lrevE, optQ, isNon]
    have ro : retOks (out.map rnD) = true := by clear ho hol; induction out <;> simp_all [retOks, retOk, rnD]
    rw [← ho] at h
    exact ⟨ro, h⟩
  | some t' =>
    obtain ⟨lt, c', ll⟩ := c.step e
    have st' := nxt_sm c.ok e
    have er : runG (m + 1) t gs = ((mrg t' gs).filter (fresh gs)).map (fun x => (t', x)) ++ runG m t' (mrg t' gs) := by
      show (match nxt t gs with | none => [] | some t' => ((mrg t' gs).filter (fresh gs)).map (fun x => (t', x)) ++ runG m t' (mrg t' gs)) = _
      rw [e]
    rw [er] at ho
    simp [cE, vE, bE, rE, fE, mE, bin, nilA, consA, bT, andT, orT, notT, tupE, lstE, allV, allM, okB, intR, addR, asL, asT, asD, eqR, eqD_nn, eqD_bb, eqD_ii, eqD_ss, eqD_tt, eqD_ll, eqD_bi, eqD_ib, eqD_nt, eqD_tn, eqD_it, eqD_ti, eqD_ni, eqD_in, eqDs_nn, eqDs_cc, eqDs_nc, eqDs_cn, cmpD, cmpDs, depD, depDs, isNon, isNR, chainE, tvE, andV, orV, notV, ifE, slEV, ixR, callV, lenC, isiC, tyN, pick, retEV, callP, argD, argDs, seqS, bkS, ctS, exprS, retS, retNS, ifS, evSl, setS, SK.loop, gN, gNil, gCons, gT, asgS, parS, defF, defK, raiseS, absC, divmodC, mmC, stL, itL, itT, itR1, itR2, itE, shL, itZ, itV, forS, evD, methL, appL, clrL, popL, insL, trL, extL, setixS, argS, argSs, callI, callN, hereA, nextA, negE, itS, wipeR, yesT, seqD, listC, tupC, numd, zipd, nxS, frSl, retSl, retSls, retOk, retOks, tryAsS, tryOnlyS, lookB, kinE, xfE, lookF, frzE, isTR, isTB, allC, blsD, gU, raiseIS, at0, at1, at2, at3, inR, cmpO, heldR, appT, lrE, sortC, intC, intsD, slE, intO, cutD, eqXR, slX, addT, repT, compX, compDx, neYR, lrevE, compE, optQ, isNon]
    refine ⟨true, gs, t, t', rfl, ⟨c.ok, by omega, c.ct, st_.mono (by decide), st'.mono (by decide)⟩, ?_⟩
    simp [cE, vE, bE, rE, fE, mE, bin, nilA, consA, bT, andT, orT, notT, tupE, lstE, allV, allM, okB, intR, addR, asL, asT, asD, eqR, eqD_nn, eqD_bb, eqD_ii, eqD_ss, eqD_tt, eqD_ll, eqD_bi, eqD_ib, eqD_nt, eqD_tn, eqD_it, eqD_ti, eqD_ni, eqD_in, eqDs_nn, eqDs_cc, eqDs_nc, eqDs_cn, cmpD, cmpDs, depD, depDs, isNon, isNR, chainE, tvE, andV, orV, notV, ifE, slEV, ixR, callV, lenC, isiC, tyN, pick, retEV, callP, argD, argDs, seqS, bkS, ctS, exprS, retS, retNS, ifS, evSl, setS, SK.loop, gN, gNil, gCons, gT, asgS, parS, defF, defK, raiseS, absC, divmodC, mmC, stL, itL, itT, itR1, itR2, itE, shL, itZ, itV, forS, evD, methL, appL, clrL, popL, insL, trL, extL, setixS, argS, argSs, callI, callN, hereA, nextA, negE, itS, wipeR, yesT, seqD, listC, tupC, numd, zipd, nxS, frSl, retSl, retSls, retOk, retOks, tryAsS, tryOnlyS, lookB, kinE, xfE, lookF, frzE, isTR, isTB, allC, blsD, gU, raiseIS, at0, at1, at2, at3, inR, cmpO, heldR, appT, lrE, sortC, intC, intsD, slE, intO, cutD, eqXR, slX, addT, repT, compX, compDx, neYR, lrevE, compE]
    have fl := List.length_filter_le (fresh gs) (mrg t' gs)
    refine ⟨by omega, comp_all (clD t') (fun x => rnD (t', x)) (fun x acc ds K ih => ?_) ((mrg t' gs).filter (fresh gs)) [] _ ?_⟩
    · simp [cE, vE, bE, rE, fE, mE, bin, nilA, consA, bT, andT, orT, notT, tupE, lstE, allV, allM, okB, intR, addR, asL, asT, asD, eqR, eqD_nn, eqD_bb, eqD_ii, eqD_ss, eqD_tt, eqD_ll, eqD_bi, eqD_ib, eqD_nt, eqD_tn, eqD_it, eqD_ti, eqD_ni, eqD_in, eqDs_nn, eqDs_cc, eqDs_nc, eqDs_cn, cmpD, cmpDs, depD, depDs, isNon, isNR, chainE, tvE, andV, orV, notV, ifE, slEV, ixR, callV, lenC, isiC, tyN, pick, retEV, callP, argD, argDs, seqS, bkS, ctS, exprS, retS, retNS, ifS, evSl, setS, SK.loop, gN, gNil, gCons, gT, asgS, parS, defF, defK, raiseS, absC, divmodC, mmC, stL, itL, itT, itR1, itR2, itE, shL, itZ, itV, forS, evD, methL, appL, clrL, popL, insL, trL, extL, setixS, argS, argSs, callI, callN, hereA, nextA, negE, itS, wipeR, compE, compD, yesT, seqD, listC, tupC, numd, zipd, nxS, frSl, retSl, retSls, retOk, retOks, tryAsS, tryOnlyS, lookB, kinE, xfE, lookF, frzE, isTR, isTB, allC, blsD, gU, raiseIS, at0, at1, at2, at3, inR, cmpO, heldR, appT, lrE, sortC, intC, intsD, slE, intO, cutD, eqXR, slX, addT, repT, compX, compDx, neYR, lrevE, clD, rnD] at ih ⊢
      exact ih
    · rw [List.nil_append]
      simp [cE, vE, bE, rE, fE, mE, bin, nilA, consA, bT, andT, orT, notT, tupE, lstE, allV, allM, okB, intR, addR, asL, asT, asD, eqR, eqD_nn, eqD_bb, eqD_ii, eqD_ss, eqD_tt, eqD_ll, eqD_bi, eqD_ib, eqD_nt, eqD_tn, eqD_it, eqD_ti, eqD_ni, eqD_in, eqDs_nn, eqDs_cc, eqDs_nc, eqDs_cn, cmpD, cmpDs, depD, depDs, isNon, isNR, chainE, tvE, andV, orV, notV, ifE, slEV, ixR, callV, lenC, isiC, tyN, pick, retEV, callP, argD, argDs, seqS, bkS, ctS, exprS, retS, retNS, ifS, evSl, setS, SK.loop, gN, gNil, gCons, gT, asgS, parS, defF, defK, raiseS, absC, divmodC, mmC, stL, itL, itT, itR1, itR2, itE, shL, itZ, itV, forS, evD, methL, appL, clrL, popL, insL, trL, extL, setixS, argS, argSs, callI, callN, hereA, nextA, negE, itS, wipeR, yesT, seqD, listC, tupC, numd, zipd, nxS, frSl, retSl, retSls, retOk, retOks, tryAsS, tryOnlyS, lookB, kinE, xfE, lookF, frzE, isTR, isTB, allC, blsD, gU, raiseIS, at0, at1, at2, at3, inR, cmpO, heldR, appT, lrE, sortC, intC, intsD, slE, intO, cutD, eqXR, slX, addT, repT, compX, compDx, neYR, lrevE, compE]
      refine ⟨by omega, true, mrg t' gs, t', rfl, ⟨c'.ok, by omega, st'.mono (by decide)⟩, ?_⟩
      simp [cE, vE, bE, rE, fE, mE, bin, nilA, consA, bT, andT, orT, notT, tupE, lstE, allV, allM, okB, intR, addR, asL, asT, asD, eqR, eqD_nn, eqD_bb, eqD_ii, eqD_ss, eqD_tt, eqD_ll, eqD_bi, eqD_ib, eqD_nt, eqD_tn, eqD_it, eqD_ti, eqD_ni, eqD_in, eqDs_nn, eqDs_cc, eqDs_nc, eqDs_cn, cmpD, cmpDs, depD, depDs, isNon, isNR, chainE, tvE, andV, orV, notV, ifE, slEV, ixR, callV, lenC, isiC, tyN, pick, retEV, callP, argD, argDs, seqS, bkS, ctS, exprS, retS, retNS, ifS, evSl, setS, SK.loop, gN, gNil, gCons, gT, asgS, parS, defF, defK, raiseS, absC, divmodC, mmC, stL, itL, itT, itR1, itR2, itE, shL, itZ, itV, forS, evD, methL, appL, clrL, popL, insL, trL, extL, setixS, argS, argSs, callI, callN, hereA, nextA, negE, itS, wipeR, yesT, seqD, listC, tupC, numd, zipd, nxS, frSl, retSl, retSls, retOk, retOks, tryAsS, tryOnlyS, lookB, kinE, xfE, lookF, frzE, isTR, isTB, allC, blsD, gU, raiseIS, at0, at1, at2, at3, inR, cmpO, heldR, appT, lrE, sortC, intC, intsD, slE, intO, cutD, eqXR, slX, addT, repT, compX, compDx, neYR, lrevE, compE]
      have em : m - 1 + 1 = m := by omega
      refine next (m - 1) _ (by omega) ⟨t', mrg t' gs, out ++ ((mrg t' gs).filter (fresh gs)).map (fun x => (t', x)), .v (.lst true (((mrg t' gs).filter (fresh gs)).map (clD t'))), ?_, by omega, c', st', by rw [em]; simpa using ho, by simp; omega⟩
      rw [List.map_append, List.map_map]
      rfl
end VS
set_option Elab.async false
set_option linter.all false
set_option maxRecDepth 100000
set_option maxHeartbeats 4000000
/-! VM97: clumps_at for bodies of any sizes; which clumps there are is told by the places alone (printed by mk97.py). Own work. -/
namespace VS
open PySem PySem.Spec PyProof.Rows
open L2 (V Hp Cx WX)
def Hd0 : List Gp → Prop
  | [] => True
  | y :: _ => y.1 = 0
theorem mrg_hd {bs : List Bw} {t t' : Rat} {gs : List Gp} (c : CI bs t gs) (h : nxt t gs = some t') (hd : Hd0 gs) : Hd0 (mrg t' gs) := by
  unfold nxt at h
  obtain ⟨m, hm, rfl⟩ := Option.map_eq_some_iff.mp h
  obtain ⟨h1, _, h3⟩ := least_spec _ _ _ hm
  have m0 := tms_pos c.up m (h3.resolve_right (fun z => nomatch z))
  have le := chn_on (by grind) c.up h1
  cases gs with
  | nil => trivial
  | cons y r =>
    obtain ⟨_, _, z, w, e, _, e2⟩ := mgo_up r y c.ok le c.ct
    show Hd0 (mgo (t + m) y r)
    rw [e]
    exact e2.trans hd
/-- where the bodies of a group stand -/
theorem seg_go : ∀ (gs : List Gp) (i : Nat), Chn ct_ gs → (∀ y r, gs = y :: r → y.1 = i) → ∀ x ∈ gs, i ≤ x.1 ∧ x.2 = ((gs.flatMap (·.2)).drop (x.1 - i)).take x.2.length ∧ x.1 - i + x.2.length ≤ (gs.flatMap (·.2)).length
  | [], _, _, _, x, hx => absurd hx List.not_mem_nil
  | y :: r, i, c, h, x, hx => by
    have hy := h y r rfl
    rcases List.mem_cons.mp hx with rfl | hx
    · refine ⟨by omega, ?_, by rw [List.flatMap_cons, List.length_append]; omega⟩
      rw [hy, Nat.sub_self, List.drop_zero, List.flatMap_cons, List.take_left]
    · have c2 : Chn ct_ r := by
        cases r with
        | nil => trivial
        | cons z w => exact c.2
      have h2 : ∀ z w, r = z :: w → z.1 = i + y.2.length := fun z w e => by
        subst e
        have : z.1 = y.1 + y.2.length := c.1
        omega
      obtain ⟨a1, a2, a3⟩ := seg_go r (i + y.2.length) c2 h2 x hx
      refine ⟨by omega, ?_, by rw [List.flatMap_cons, List.length_append]; omega⟩
      rw [List.flatMap_cons, show x.1 - i = y.2.length + (x.1 - (i + y.2.length)) by omega, List.drop_append]
      rw [List.drop_of_length_le (by omega), List.nil_append, show y.2.length + (x.1 - (i + y.2.length)) - y.2.length = x.1 - (i + y.2.length) by omega]
      exact a2
def atG (m : Rat) : Nat → Rat → List Gp → List Gp
  | 0, _, gs => gs
  | n + 1, t, gs => match nxt t gs with
    | none => gs
    | some t' => if m < t' then gs else atG m n t' (mrg t' gs)
def MoOk (t : Rat) : Prop := Sm 410 t ∧ 0 ≤ t
def clAt (bs : List Bw) (t : Rat) : List Gp := atG t 13 0 (sng 0 bs)
def F_clumps_at : FS := fun ss K E => ∃ (st : Bool) (bs : List Bw) (d : D), ss = [.v (.lst st (bs.map wD)), .v d] ∧ GWorld bs ∧ ((∃ t, d = frD t ∧ MoOk t ∧ K (.m (.l ((clAt bs t).map (clD t)))) []) ∨ (∃ a b : Int, d = .tup [.int a, .int b] ∧ (0 < b ∧ a < 0 ∧ Si 100 a ∧ Si 100 b) ∧ E noMoment []))
theorem m_clumps_at : MonoF F_clumps_at := fun ss K K' E E' hk he ⟨st, bs, d, h1, h2, h3⟩ => ⟨st, bs, d, h1, h2, by
  rcases h3 with ⟨t, a, b, h⟩ | ⟨a, b, x, y, h⟩
  · exact .inl ⟨t, a, b, hk _ _ h⟩
  · exact .inr ⟨a, b, x, y, he _ _ h⟩⟩
def sf_clumps_at : SS := (seqS (exprS (callP F_need_moment [] (consA true (vE 1) nilA)))
  (seqS (setS 2 true (callP F_first_clumps [] (consA true (vE 0) nilA)))
  (seqS (setS 3 true (cE gv_NOUGHT))
  (seqS (setS 4 true (callP F_next_moment [] (consA true (vE 2) (consA true (vE 3) nilA))))
  (seqS (whileS (andT (bT (bin true (vE 4) (cE .non) (isNR true))) (notT (bT (callP F_under [] (consA true (vE 1) (consA true (vE 4) nilA)))))) (seqS (setS 2 true (bin true (callP F_stuck_on [] (consA true (vE 2) (consA true (vE 3) (consA true (vE 4) nilA)))) (cE (.int 0)) ixR))
  (seqS (setS 3 true (vE 4))
  (setS 4 true (callP F_next_moment [] (consA true (vE 2) (consA true (vE 3) nilA)))))))
  (retS (callP F_led_on [] (consA true (vE 2) (consA true (callP F_minus [] (consA true (vE 1) (consA true (vE 3) nilA))) nilA)))))))))
theorem to_clumps_at : ∀ ss K E, F_clumps_at ss K E → defF [false, false] 5 sf_clumps_at ss K E := fun ss K E h => by
  obtain ⟨st, bs, d, rfl, cw, h⟩ := h
  rcases h with ⟨t, rfl, ⟨ht, t0⟩, h⟩ | ⟨a, b, rfl, ⟨b0, a0, sa, sb⟩, h⟩
  · have ht4 : Sm 4000 t := ht.mono (by decide)
    have ci := cw.ci
    have z0 : Sm 604 (0 : Rat) := ⟨by unfold Si; decide, by unfold Si; decide⟩
    simp [sf_clumps_at, cE, vE, bE, rE, fE, mE, bin, nilA, consA, bT, andT, orT, notT, tupE, lstE, allV, allM, okB, intR, addR, asL, asT, asD, eqR, eqD_nn, eqD_bb, eqD_ii, eqD_ss, eqD_tt, eqD_ll, eqD_bi, eqD_ib, eqD_nt, eqD_tn, eqD_it, eqD_ti, eqD_ni, eqD_in, eqDs_nn, eqDs_cc, eqDs_nc, eqDs_cn, cmpD, cmpDs, depD, depDs, isNon, isNR, chainE, tvE, andV, orV, notV, ifE, slEV, ixR, callV, lenC, isiC, tyN, pick, retEV, callP, argD, argDs, seqS, bkS, ctS, exprS, retS, retNS, ifS, evSl, setS, SK.loop, gN, gNil, gCons, gT, asgS, parS, defF, defK, raiseS, absC, divmodC, mmC, stL, itL, itT, itR1, itR2, itE, shL, itZ, itV, forS, evD, methL, appL, clrL, popL, insL, trL, extL, setixS, argS, argSs, callI, callN, hereA, nextA, negE, itS, wipeR, compE, compD, yesT, seqD, listC, tupC, numd, zipd, nxS, frSl, retSl, retSls, retOk, retOks, tryAsS, tryOnlyS, lookB, kinE, xfE, lookF, frzE, isTR, isTB, allC, blsD, gU, raiseIS, at0, at1, at2, at3, inR, cmpO, heldR, appT, lrE, sortC, intC, intsD, slE, intO, cutD, eqXR, slX, addT, repT, compX, compDx, neYR, lrevE, F_need_moment, Rat.den_nz, nd, gv_NOUGHT]
    refine ⟨⟨t.den_pos, by (repeat' with_reducible apply And.intro) <;> try first | assumption | exact Sm.n (by assumption) | exact Sm.d (by assumption) | exact Si.mono (by assumption) (by decide) | exact dpos _ | exact Rat.nz _ | exact Rat.den_nz _⟩, ?_⟩
    rw [if_neg (by grind)]
    refine ⟨st, bs, rfl, ⟨by have := cw.le; omega, cw.ok⟩, ?_⟩
    simp [cE, vE, bE, rE, fE, mE, bin, nilA, consA, bT, andT, orT, notT, tupE, lstE, allV, allM, okB, intR, addR, asL, asT, asD, eqR, eqD_nn, eqD_bb, eqD_ii, eqD_ss, eqD_tt, eqD_ll, eqD_bi, eqD_ib, eqD_nt, eqD_tn, eqD_it, eqD_ti, eqD_ni, eqD_in, eqDs_nn, eqDs_cc, eqDs_nc, eqDs_cn, cmpD, cmpDs, depD, depDs, isNon, isNR, chainE, tvE, andV, orV, notV, ifE, slEV, ixR, callV, lenC, isiC, tyN, pick, retEV, callP, argD, argDs, seqS, bkS, ctS, exprS, retS, retNS, ifS, evSl, setS, SK.loop, gN, gNil, gCons, gT, asgS, parS, defF, defK, raiseS, absC, divmodC, mmC, stL, itL, itT, itR1, itR2, itE, shL, itZ, itV, forS, evD, methL, appL, clrL, popL, insL, trL, extL, setixS, argS, argSs, callI, callN, hereA, nextA, negE, itS, wipeR, compE, compD, yesT, seqD, listC, tupC, numd, zipd, nxS, frSl, retSl, retSls, retOk, retOks, tryAsS, tryOnlyS, lookB, kinE, xfE, lookF, frzE, isTR, isTB, allC, blsD, gU, raiseIS, at0, at1, at2, at3, inR, cmpO, heldR, appT, lrE, sortC, intC, intsD, slE, intO, cutD, eqXR, slX, addT, repT, compX, compDx, neYR, lrevE]
    refine ⟨true, sng 0 bs, 0, rfl, ⟨ci.ok, by have := ci.len; omega, z0.mono (by decide)⟩, ?_⟩
    simp [cE, vE, bE, rE, fE, mE, bin, nilA, consA, bT, andT, orT, notT, tupE, lstE, allV, allM, okB, intR, addR, asL, asT, asD, eqR, eqD_nn, eqD_bb, eqD_ii, eqD_ss, eqD_tt, eqD_ll, eqD_bi, eqD_ib, eqD_nt, eqD_tn, eqD_it, eqD_ti, eqD_ni, eqD_in, eqDs_nn, eqDs_cc, eqDs_nc, eqDs_cn, cmpD, cmpDs, depD, depDs, isNon, isNR, chainE, tvE, andV, orV, notV, ifE, slEV, ixR, callV, lenC, isiC, tyN, pick, retEV, callP, argD, argDs, seqS, bkS, ctS, exprS, retS, retNS, ifS, evSl, setS, SK.loop, gN, gNil, gCons, gT, asgS, parS, defF, defK, raiseS, absC, divmodC, mmC, stL, itL, itT, itR1, itR2, itE, shL, itZ, itV, forS, evD, methL, appL, clrL, popL, insL, trL, extL, setixS, argS, argSs, callI, callN, hereA, nextA, negE, itS, wipeR, compE, compD, yesT, seqD, listC, tupC, numd, zipd, nxS, frSl, retSl, retSls, retOk, retOks, tryAsS, tryOnlyS, lookB, kinE, xfE, lookF, frzE, isTR, isTB, allC, blsD, gU, raiseIS, at0, at1, at2, at3, inR, cmpO, heldR, appT, lrE, sortC, intC, intsD, slE, intO, cutD, eqXR, slX, addT, repT, compX, compDx, neYR, lrevE]
    refine while_m (n := 12) (fun m ρ => ∃ t' gs, ρ = [.v (.lst st (bs.map wD)), .v (frD t), .v (.lst true (gs.map (clD t'))), .v (frD t'), .v (optQ (nxt t' gs))] ∧ gs.length ≤ m ∧ CI bs t' gs ∧ Sm 604 t' ∧ atG t (m + 1) t' gs = clAt bs t) ⟨0, sng 0 bs, rfl, ci.len, ci, z0, rfl⟩ ?_
    rintro m ρ K3 ⟨t', gs, rfl, hl, c, st_, ho⟩ next
    have cl := c.len
    have w := ht.sub st_
    have et : t' + (t - t') = t := by grind
    cases e : nxt t' gs with
    | none =>
      have er : atG t (m + 1) t' gs = gs := by unfold atG; rw [e]
      rw [er] at ho
      simp [cE, vE, bE, rE, fE, mE, bin, nilA, consA, bT, andT, orT, notT, tupE, lstE, allV, allM, okB, intR, addR, asL, asT, asD, eqR, eqD_nn, eqD_bb, eqD_ii, eqD_ss, eqD_tt, eqD_ll, eqD_bi, eqD_ib, eqD_nt, eqD_tn, eqD_it, eqD_ti, eqD_ni, eqD_in, eqDs_nn, eqDs_cc, eqDs_nc, eqDs_cn, cmpD, cmpDs, depD, depDs, isNon, isNR, chainE, tvE, andV, orV, notV, ifE, slEV, ixR, callV, lenC, isiC, tyN, pick, retEV, callP, argD, argDs, seqS, bkS, ctS, exprS, retS, retNS, ifS, evSl, setS, SK.loop, gN, gNil, gCons, gT, asgS, parS, defF, defK, raiseS, absC, divmodC, mmC, stL, itL, itT, itR1, itR2, itE, shL, itZ, itV, forS, evD, methL, appL, clrL, popL, insL, trL, extL, setixS, argS, argSs, callI, callN, hereA, nextA, negE, itS, wipeR, compE, compD, yesT, seqD, listC, tupC, numd, zipd, nxS, frSl, retSl, retSls, retOk, retOks, tryAsS, tryOnlyS, lookB, kinE, xfE, lookF, frzE, isTR, isTB, allC, blsD, gU, raiseIS, at0, at1, at2, at3, inR, cmpO, heldR, appT, lrE, sortC, intC, intsD, slE, intO, cutD, eqXR, slX, addT, repT, compX, compDx, neYR, lrevE, optQ, isNon, F_minus, F_two, Rat.den_nz, nd]
      refine ⟨by (repeat' with_reducible apply And.intro) <;> try first | assumption | exact Sm.n (by assumption) | exact Sm.d (by assumption) | exact Si.mono (by assumption) (by decide) | exact dpos _ | exact Rat.nz _ | exact Rat.den_nz _, true, gs, t', t - t', rfl, ⟨c.ok, by omega, st_.mono (by decide), w.mono (by decide)⟩, ?_⟩
      rw [et, ho]
      simp
      exact ⟨retOks_cl _, h⟩
    | some t2 =>
      obtain ⟨lt, c', ll⟩ := c.step e
      have st' := nxt_sm c.ok e
      have er : atG t (m + 1) t' gs = if t < t2 then gs else atG t m t2 (mrg t2 gs) := by
        show (match nxt t' gs with | none => gs | some t2 => if t < t2 then gs else atG t m t2 (mrg t2 gs)) = _
        rw [e]
      rw [er] at ho
      simp [cE, vE, bE, rE, fE, mE, bin, nilA, consA, bT, andT, orT, notT, tupE, lstE, allV, allM, okB, intR, addR, asL, asT, asD, eqR, eqD_nn, eqD_bb, eqD_ii, eqD_ss, eqD_tt, eqD_ll, eqD_bi, eqD_ib, eqD_nt, eqD_tn, eqD_it, eqD_ti, eqD_ni, eqD_in, eqDs_nn, eqDs_cc, eqDs_nc, eqDs_cn, cmpD, cmpDs, depD, depDs, isNon, isNR, chainE, tvE, andV, orV, notV, ifE, slEV, ixR, callV, lenC, isiC, tyN, pick, retEV, callP, argD, argDs, seqS, bkS, ctS, exprS, retS, retNS, ifS, evSl, setS, SK.loop, gN, gNil, gCons, gT, asgS, parS, defF, defK, raiseS, absC, divmodC, mmC, stL, itL, itT, itR1, itR2, itE, shL, itZ, itV, forS, evD, methL, appL, clrL, popL, insL, trL, extL, setixS, argS, argSs, callI, callN, hereA, nextA, negE, itS, wipeR, compE, compD, yesT, seqD, listC, tupC, numd, zipd, nxS, frSl, retSl, retSls, retOk, retOks, tryAsS, tryOnlyS, lookB, kinE, xfE, lookF, frzE, isTR, isTB, allC, blsD, gU, raiseIS, at0, at1, at2, at3, inR, cmpO, heldR, appT, lrE, sortC, intC, intsD, slE, intO, cutD, eqXR, slX, addT, repT, compX, compDx, neYR, lrevE, optQ, isNon, F_under, F_minus, F_two, Rat.den_nz, nd]
      refine ⟨⟨t.den_pos, t2.den_pos, by (repeat' with_reducible apply And.intro) <;> try first | assumption | exact Sm.n (by assumption) | exact Sm.d (by assumption) | exact Si.mono (by assumption) (by decide) | exact dpos _ | exact Rat.nz _ | exact Rat.den_nz _⟩, ?_⟩
      by_cases k : t < t2
      · rw [if_pos k] at ho ⊢
        refine ⟨by (repeat' with_reducible apply And.intro) <;> try first | assumption | exact Sm.n (by assumption) | exact Sm.d (by assumption) | exact Si.mono (by assumption) (by decide) | exact dpos _ | exact Rat.nz _ | exact Rat.den_nz _, true, gs, t', t - t', rfl, ⟨c.ok, by omega, st_.mono (by decide), w.mono (by decide)⟩, ?_⟩
        rw [et, ho]
        simp
        exact ⟨retOks_cl _, h⟩
      · rw [if_neg k] at ho ⊢
        refine ⟨true, gs, t', t2, rfl, ⟨c.ok, by omega, c.ct, st_.mono (by decide), st'.mono (by decide)⟩, ?_⟩
        simp [cE, vE, bE, rE, fE, mE, bin, nilA, consA, bT, andT, orT, notT, tupE, lstE, allV, allM, okB, intR, addR, asL, asT, asD, eqR, eqD_nn, eqD_bb, eqD_ii, eqD_ss, eqD_tt, eqD_ll, eqD_bi, eqD_ib, eqD_nt, eqD_tn, eqD_it, eqD_ti, eqD_ni, eqD_in, eqDs_nn, eqDs_cc, eqDs_nc, eqDs_cn, cmpD, cmpDs, depD, depDs, isNon, isNR, chainE, tvE, andV, orV, notV, ifE, slEV, ixR, callV, lenC, isiC, tyN, pick, retEV, callP, argD, argDs, seqS, bkS, ctS, exprS, retS, retNS, ifS, evSl, setS, SK.loop, gN, gNil, gCons, gT, asgS, parS, defF, defK, raiseS, absC, divmodC, mmC, stL, itL, itT, itR1, itR2, itE, shL, itZ, itV, forS, evD, methL, appL, clrL, popL, insL, trL, extL, setixS, argS, argSs, callI, callN, hereA, nextA, negE, itS, wipeR, compE, compD, yesT, seqD, listC, tupC, numd, zipd, nxS, frSl, retSl, retSls, retOk, retOks, tryAsS, tryOnlyS, lookB, kinE, xfE, lookF, frzE, isTR, isTB, allC, blsD, gU, raiseIS, at0, at1, at2, at3, inR, cmpO, heldR, appT, lrE, sortC, intC, intsD, slE, intO, cutD, eqXR, slX, addT, repT, compX, compDx, neYR, lrevE]
        have ml : (mrg t2 gs).length ≤ 12 := c'.len
        refine ⟨true, mrg t2 gs, t2, rfl, ⟨c'.ok, by omega, st'.mono (by decide)⟩, ?_⟩
        simp [cE, vE, bE, rE, fE, mE, bin, nilA, consA, bT, andT, orT, notT, tupE, lstE, allV, allM, okB, intR, addR, asL, asT, asD, eqR, eqD_nn, eqD_bb, eqD_ii, eqD_ss, eqD_tt, eqD_ll, eqD_bi, eqD_ib, eqD_nt, eqD_tn, eqD_it, eqD_ti, eqD_ni, eqD_in, eqDs_nn, eqDs_cc, eqDs_nc, eqDs_cn, cmpD, cmpDs, depD, depDs, isNon, isNR, chainE, tvE, andV, orV, notV, ifE, slEV, ixR, callV, lenC, isiC, tyN, pick, retEV, callP, argD, argDs, seqS, bkS, ctS, exprS, retS, retNS, ifS, evSl, setS, SK.loop, gN, gNil, gCons, gT, asgS, parS, defF, defK, raiseS, absC, divmodC, mmC, stL, itL, itT, itR1, itR2, itE, shL, itZ, itV, forS, evD, methL, appL, clrL, popL, insL, trL, extL, setixS, argS, argSs, callI, callN, hereA, nextA, negE, itS, wipeR, compE, compD, yesT, seqD, listC, tupC, numd, zipd, nxS, frSl, retSl, retSls, retOk, retOks, tryAsS, tryOnlyS, lookB, kinE, xfE, lookF, frzE, isTR, isTB, allC, blsD, gU, raiseIS, at0, at1, at2, at3, inR, cmpO, heldR, appT, lrE, sortC, intC, intsD, slE, intO, cutD, eqXR, slX, addT, repT, compX, compDx, neYR, lrevE]
        have em : m - 1 + 1 = m := by omega
        exact next (m - 1) _ (by omega) ⟨t2, mrg t2 gs, rfl, by omega, c', st', by rw [em]; exact ho⟩
  · have lt : (a : Rat) / (b : Rat) < 0 := by
      have hb : (0 : Rat) < b := by exact_mod_cast b0
      rw [Rat.div_lt_iff hb]
      rw [Rat.zero_mul]
      exact_mod_cast a0
    simp [sf_clumps_at, cE, vE, bE, rE, fE, mE, bin, nilA, consA, bT, andT, orT, notT, tupE, lstE, allV, allM, okB, intR, addR, asL, asT, asD, eqR, eqD_nn, eqD_bb, eqD_ii, eqD_ss, eqD_tt, eqD_ll, eqD_bi, eqD_ib, eqD_nt, eqD_tn, eqD_it, eqD_ti, eqD_ni, eqD_in, eqDs_nn, eqDs_cc, eqDs_nc, eqDs_cn, cmpD, cmpDs, depD, depDs, isNon, isNR, chainE, tvE, andV, orV, notV, ifE, slEV, ixR, callV, lenC, isiC, tyN, pick, retEV, callP, argD, argDs, seqS, bkS, ctS, exprS, retS, retNS, ifS, evSl, setS, SK.loop, gN, gNil, gCons, gT, asgS, parS, defF, defK, raiseS, absC, divmodC, mmC, stL, itL, itT, itR1, itR2, itE, shL, itZ, itV, forS, evD, methL, appL, clrL, popL, insL, trL, extL, setixS, argS, argSs, callI, callN, hereA, nextA, negE, itS, wipeR, compE, compD, yesT, seqD, listC, tupC, numd, zipd, nxS, frSl, retSl, retSls, retOk, retOks, tryAsS, tryOnlyS, lookB, kinE, xfE, lookF, frzE, isTR, isTB, allC, blsD, gU, raiseIS, at0, at1, at2, at3, inR, cmpO, heldR, appT, lrE, sortC, intC, intsD, slE, intO, cutD, eqXR, slX, addT, repT, compX, compDx, neYR, lrevE, F_need_moment, lt]
    exact ⟨⟨b0, sa.mono (by decide), sb.mono (by decide)⟩, h⟩
theorem self_rn : ∀ rs : List (Rat × Gp), cmpDs (rs.map rnD) = true ∧ eqDs (rs.map rnD) (rs.map rnD) = true ∧ depDs (rs.map rnD) ≤ 2
  | [] => ⟨rfl, by simp [eqDs], by simp [depDs]⟩
  | x :: rs => by
    obtain ⟨h1, h2, h3⟩ := self_rn rs
    refine ⟨by simp [cmpDs, h1, cmpD, rnD], ?_, ?_⟩
    · rw [List.map_cons, eqDs_cc, h2]
      simp [rnD, eqD_tt, eqDs_cc, eqD_ii, eqDs_nn]
    · simp [depDs, depD, rnD]
      omega
theorem self_cl {t : Rat} : ∀ gs : List Gp, cmpDs (gs.map (clD t)) = true ∧ eqDs (gs.map (clD t)) (gs.map (clD t)) = true ∧ depDs (gs.map (clD t)) ≤ 2
  | [] => ⟨rfl, by simp [eqDs], by simp [depDs]⟩
  | x :: gs => by
    obtain ⟨h1, h2, h3⟩ := self_cl (t := t) gs
    refine ⟨by simp [cmpDs, h1, cmpD, clD], ?_, ?_⟩
    · rw [List.map_cons, eqDs_cc, h2]
      simp [clD, eqD_tt, eqDs_cc, eqD_ii, eqDs_nn]
    · simp [depDs, depD, clD]
      omega
theorem run_len {bs : List Bw} : ∀ (n : Nat) (t : Rat) (gs : List Gp), CI bs t gs → (runG n t gs).length ≤ 12 * n
  | 0, _, _, _ => by simp [runG]
  | n + 1, t, gs, c => by
    unfold runG
    cases e : nxt t gs with
    | none => simp
    | some t' =>
      obtain ⟨_, c', ll⟩ := c.step e
      have := run_len n t' _ c'
      have fl := List.length_filter_le (fresh gs) (mrg t' gs)
      have := c.len
      simp only [List.length_append, List.length_map]
      omega
/-- the state behind the clumps of a moment -/
theorem atG_st {bs : List Bw} {m : Rat} : ∀ (n : Nat) (t : Rat) (gs : List Gp), CI bs t gs → t ≤ m → gs.length ≤ n + 1 → ∃ t0, t0 ≤ m ∧ t ≤ t0 ∧ CI bs t0 (atG m n t gs) ∧ ∀ t', nxt t0 (atG m n t gs) = some t' → m < t'
  | 0, t, gs, c, h, l => by
    refine ⟨t, h, Rat.le_refl, c, fun t' e => ?_⟩
    have : nxt t gs = none := by
      cases gs with
      | nil => rfl
      | cons x r =>
        cases r with
        | nil => rfl
        | cons y r => simp at l
    have e : nxt t gs = some t' := e
    rw [this] at e
    cases e
  | n + 1, t, gs, c, h, l => by
    unfold atG
    cases e : nxt t gs with
    | none => exact ⟨t, h, Rat.le_refl, c, fun t' z => by rw [e] at z; cases z⟩
    | some t' =>
      dsimp only
      obtain ⟨lt, c', ll⟩ := c.step e
      split
      · rename_i k
        exact ⟨t, h, Rat.le_refl, c, fun t2 z => by rw [e] at z; cases z; exact k⟩
      · rename_i k
        obtain ⟨t0, q1, q2, q3, q4⟩ := atG_st (m := m) n t' _ c' (by grind) (by omega)
        exact ⟨t0, q1, by grind, q3, q4⟩
theorem chn_lt {t m : Rat} (m0 : 0 ≤ m) : ∀ {gs : List Gp}, Chn (lt_at t) gs → (∀ q ∈ tms t gs, m < q) → Chn (lt_at (t + m)) gs
  | [], _, _ => trivial
  | [_], _, _ => trivial
  | x :: y :: r, c, h => by
    have h' : ∀ q ∈ (if gu y.2 < gu x.2 then [(gp y.2 t - gp x.2 t) / (gu x.2 - gu y.2)] else []) ++ tms t (y :: r), m < q := h
    refine ⟨?_, chn_lt m0 c.2 fun q hq => h' q (List.mem_append_right _ hq)⟩
    have a : gp x.2 t < gp y.2 t := c.1
    show gp x.2 (t + m) < gp y.2 (t + m)
    rw [gp_on, gp_on]
    by_cases k : gu y.2 < gu x.2
    · have := h' _ (List.mem_append_left _ (by rw [if_pos k]; exact List.mem_singleton_self _))
      have d0 : 0 < gu x.2 - gu y.2 := by grind
      have e : (gp y.2 t - gp x.2 t) / (gu x.2 - gu y.2) * (gu x.2 - gu y.2) = gp y.2 t - gp x.2 t := by grind
      have l := Rat.mul_lt_mul_of_pos_right this d0
      grind
    · have : 0 ≤ (gu y.2 - gu x.2) * m := Rat.mul_nonneg (by grind) m0
      grind
/-- a clump as a body -/
def bwT (t : Rat) (x : Gp) : Bw := ⟨gp x.2 t, gu x.2, gM x.2⟩
/-- weight times place, summed up -/
def sS (g : List Bw) (t : Rat) : Rat := gX g + gV g * t
theorem sS_app (g h : List Bw) (t : Rat) : sS (g ++ h) t = sS g t + sS h t := by unfold sS; rw [gX_app, gV_app]; grind
theorem sS_nil (t : Rat) : sS [] t = 0 := by simp [sS, gX, gV]; grind
def qM (g : List Bw) : Rat := (gM g : Rat)
theorem qM_app (g h : List Bw) : qM (g ++ h) = qM g + qM h := by unfold qM; rw [gM_app, Rat.intCast_add]
theorem qM_nil : qM [] = 0 := by simp [qM, gM]
theorem PosG.l {g h : List Bw} (p : PosG (g ++ h)) : PosG g := fun b hb => p b (List.mem_append_left _ hb)
theorem PosG.r {g h : List Bw} (p : PosG (g ++ h)) : PosG h := fun b hb => p b (List.mem_append_right _ hb)
theorem qM_pos {g : List Bw} (p : PosG g) (ne : g ≠ []) : 0 < qM g := by
  have h1 := gM_ge p
  have h2 : 0 < g.length := List.length_pos_iff.mpr ne
  have : 0 < gM g := by omega
  unfold qM
  exact_mod_cast this
theorem qM_nn {g : List Bw} (p : PosG g) : 0 ≤ qM g := by
  have h1 := gM_ge p
  have : 0 ≤ gM g := by omega
  unfold qM
  exact_mod_cast this
theorem gp_mul {g : List Bw} (p : PosG g) (ne : g ≠ []) (t : Rat) : gp g t * qM g = sS g t := by
  have := qM_pos p ne
  unfold gp
  show sS g t / qM g * qM g = sS g t
  grind
theorem lt_of_mul' {a b d : Rat} (d0 : 0 < d) (h : a * d < b * d) : a < b := by
  refine Classical.byContradiction fun z => ?_
  have : b * d ≤ a * d := Rat.mul_le_mul_of_nonneg_right (by grind) (Rat.le_of_lt d0)
  grind
theorem le_of_mul' {a b d : Rat} (d0 : 0 < d) (h : a * d ≤ b * d) : a ≤ b := by
  refine Classical.byContradiction fun z => ?_
  have : 0 < (a - b) * d := Rat.mul_pos (by grind) d0
  grind
/-- held together: no beginning of it is ahead of the whole -/
def HbT (t : Rat) (g : List Bw) : Prop := ∀ a b, g = a ++ b → gp g t * qM a ≤ sS a t
structure ClR (t : Rat) (gs : List Gp) : Prop where
  ok : ∀ x ∈ gs, x.2 ≠ [] ∧ PosG x.2 ∧ HbT t x.2
  up : Chn (lt_at t) gs
theorem Chn.tail {R : Gp → Gp → Prop} {x : Gp} : ∀ {r : List Gp}, Chn R (x :: r) → Chn R r
  | [], _ => trivial
  | _ :: _, c => c.2
theorem ClR.tail {t : Rat} {x : Gp} {gs : List Gp} (h : ClR t (x :: gs)) : ClR t gs := ⟨fun y hy => h.ok y (List.mem_cons_of_mem _ hy), Chn.tail h.up⟩
/-- a row all of whose groups are beyond P -/
theorem br_pre {t P : Rat} : ∀ (gs : List Gp), ClR t gs → (∀ x r, gs = x :: r → P < gp x.2 t) → ∀ b c, gs.flatMap (·.2) = b ++ c → b ≠ [] → P * qM b < sS b t
  | [], _, _, b, c, e, ne => by
    have : b = [] := (List.append_eq_nil_iff.mp e.symm).1
    exact absurd this ne
  | x :: r, h, hP, b, c, e, ne => by
    obtain ⟨n1, p1, b1⟩ := h.ok x List.mem_cons_self
    have hx := hP x r rfl
    have hr : ∀ y s, r = y :: s → P < gp y.2 t := fun y s es => by
      subst es
      have : gp x.2 t < gp y.2 t := h.up.1
      grind
    rw [List.flatMap_cons] at e
    rcases List.append_eq_append_iff.mp e with ⟨d, e1, e2⟩ | ⟨d, e1, e2⟩
    · -- b = x.2 ++ d
      have m1 := gp_mul p1 n1 t
      have q1 := qM_pos p1 n1
      have l1 : P * qM x.2 < gp x.2 t * qM x.2 := by
        have : 0 < (gp x.2 t - P) * qM x.2 := Rat.mul_pos (by grind) q1
        grind
      rw [e1, qM_app, sS_app]
      by_cases hd : d = []
      · rw [hd, qM_nil, sS_nil]
        grind
      · have := br_pre r h.tail hr d c e2 hd
        grind
    · -- x.2 = b ++ d
      have pb : PosG b := by rw [e1] at p1; exact p1.l
      have q1 := qM_pos pb ne
      have := b1 b d e1
      have : 0 < (gp x.2 t - P) * qM b := Rat.mul_pos (by grind) q1
      grind
theorem br_no {t : Rat} {x y : Gp} {r s : List Gp} {d : List Bw} (h : ClR t (x :: r)) (k : ClR t (y :: s)) (e : y.2 = x.2 ++ d) (e2 : (x :: r).flatMap (·.2) = (y :: s).flatMap (·.2)) : d = [] := by
  refine Classical.byContradiction fun ne => ?_
  obtain ⟨n1, p1, b1⟩ := h.ok x List.mem_cons_self
  obtain ⟨n2, p2, b2⟩ := k.ok y List.mem_cons_self
  rw [List.flatMap_cons, List.flatMap_cons, e, List.append_assoc] at e2
  have e3 : r.flatMap (·.2) = d ++ s.flatMap (·.2) := List.append_cancel_left e2
  have := br_pre (P := gp x.2 t) r h.tail (fun z w ew => by subst ew; exact h.up.1) d _ e3 ne
  have m1 := gp_mul p1 n1 t
  have m2 := gp_mul p2 n2 t
  have b3 := b2 x.2 d e
  have q1 := qM_pos p1 n1
  have q2 := qM_pos p2 n2
  have l1 : gp y.2 t ≤ gp x.2 t := le_of_mul' q1 (by grind)
  have l2 : gp x.2 t < gp y.2 t := lt_of_mul' q2 (by rw [m2, e, sS_app, qM_app]; grind)
  grind
/-- one row alone there is -/
theorem br_uniq {t : Rat} : ∀ (gs hs : List Gp), ClR t gs → ClR t hs → gs.flatMap (·.2) = hs.flatMap (·.2) → gs.map (·.2) = hs.map (·.2)
  | [], [], _, _, _ => rfl
  | [], y :: s, _, k, e => by
    rw [List.flatMap_cons] at e
    exact absurd (List.append_eq_nil_iff.mp e.symm).1 (k.ok y List.mem_cons_self).1
  | x :: r, [], h, _, e => by
    rw [List.flatMap_cons] at e
    exact absurd (List.append_eq_nil_iff.mp e).1 (h.ok x List.mem_cons_self).1
  | x :: r, y :: s, h, k, e => by
    have e' := e
    rw [List.flatMap_cons, List.flatMap_cons] at e'
    have hh : x.2 = y.2 := by
      rcases List.append_eq_append_iff.mp e' with ⟨d, e1, e2⟩ | ⟨d, e1, e2⟩
      · have := br_no h k e1 e
        rw [this, List.append_nil] at e1
        exact e1.symm
      · have := br_no k h e1 e.symm
        rw [this, List.append_nil] at e1
        exact e1
    rw [hh] at e'
    have := br_uniq r s h.tail k.tail (List.append_cancel_left e')
    rw [List.map_cons, List.map_cons, hh, this]
theorem ct_same : ∀ (gs hs : List Gp), Chn ct_ gs → Chn ct_ hs → (∀ x r y s, gs = x :: r → hs = y :: s → x.1 = y.1) → gs.map (·.2) = hs.map (·.2) → gs = hs
  | [], [], _, _, _, _ => rfl
  | [], y :: s, _, _, _, e => by simp at e
  | x :: r, [], _, _, _, e => by simp at e
  | x :: r, y :: s, c, d, h, e => by
    rw [List.map_cons, List.map_cons] at e
    obtain ⟨e1, e2⟩ := List.cons.inj e
    have e0 := h x r y s rfl rfl
    have exy : x = y := Prod.ext e0 e1
    rw [exy, ct_same r s (Chn.tail c) (Chn.tail d) (fun z w z' w' ez ez' => by
      subst ez
      subst ez'
      have h1 : z.1 = x.1 + x.2.length := c.1
      have h2 : z'.1 = y.1 + y.2.length := d.1
      rw [h1, h2, e0, e1]) e2]
/-! the clumps are such a row -/
theorem sS_one {b : Bw} (t : Rat) (m : 1 ≤ b.m) : HbT t [b] := fun a c e => by
  cases a with
  | nil => rw [qM_nil, sS_nil]; grind
  | cons x a =>
    have e1 := List.cons.inj e
    have e2 := List.append_eq_nil_iff.mp e1.2.symm
    have : x :: a = [b] := by rw [e2.1, e1.1]
    rw [this, gp_mul (fun y hy => by rw [List.mem_singleton.mp hy]; exact m) (by simp)]
    exact Rat.le_refl
theorem bd_join {t : Rat} {g h : List Bw} (pg : PosG g) (ph : PosG h) (ng : g ≠ []) (nh : h ≠ []) (bg : HbT t g) (bh : HbT t h) (e : gp g t = gp h t) : HbT t (g ++ h) := fun a b ab => by
  have m1 := gp_mul pg ng t
  have m2 := gp_mul ph nh t
  have pj : PosG (g ++ h) := fun c hc => by
    rcases List.mem_append.mp hc with z | z
    · exact pg c z
    · exact ph c z
  have m3 := gp_mul pj (by simp [ng]) t
  have q1 := qM_pos pg ng
  have q2 := qM_pos ph nh
  have eP : gp (g ++ h) t = gp g t := by
    have q3 : 0 < qM (g ++ h) := by rw [qM_app]; grind
    have : gp (g ++ h) t * qM (g ++ h) = gp g t * qM (g ++ h) := by
      rw [m3, sS_app, qM_app, ← m1, ← m2, ← e]
      grind
    refine Rat.le_antisymm (le_of_mul' q3 ?_) (le_of_mul' q3 ?_)
    · rw [this]; exact Rat.le_refl
    · rw [this]; exact Rat.le_refl
  rw [eP]
  rcases List.append_eq_append_iff.mp ab with ⟨d, e1, e2⟩ | ⟨d, e1, e2⟩
  · -- a = g ++ d
    have := bh d b e2
    rw [e1, qM_app, sS_app, ← m1]
    rw [e]
    grind
  · exact bg a d e1
theorem gX_lo {P : Rat} : ∀ {g : List Bw}, PosG g → (∀ b ∈ g, P ≤ b.p) → P * qM g ≤ gX g
  | [], _, _ => by rw [qM_nil]; simp [gX]
  | b :: r, p, h => by
    have ih := gX_lo (P := P) (g := r) (fun c hc => p c (List.mem_cons_of_mem _ hc)) fun c hc => h c (List.mem_cons_of_mem _ hc)
    have hb := h b List.mem_cons_self
    have mb : (0 : Rat) ≤ (b.m : Rat) := by
      have := p b List.mem_cons_self
      exact_mod_cast (by omega : 0 ≤ b.m)
    have := Rat.mul_le_mul_of_nonneg_right hb mb
    have e : qM (b :: r) = (b.m : Rat) + qM r := by unfold qM; simp [gM]
    rw [e]
    show _ ≤ (b.m : Rat) * b.p + gX r
    grind
theorem gX_hi {P : Rat} : ∀ {g : List Bw}, PosG g → (∀ b ∈ g, b.p ≤ P) → gX g ≤ P * qM g
  | [], _, _ => by rw [qM_nil]; simp [gX]
  | b :: r, p, h => by
    have ih := gX_hi (P := P) (g := r) (fun c hc => p c (List.mem_cons_of_mem _ hc)) fun c hc => h c (List.mem_cons_of_mem _ hc)
    have hb := h b List.mem_cons_self
    have mb : (0 : Rat) ≤ (b.m : Rat) := by
      have := p b List.mem_cons_self
      exact_mod_cast (by omega : 0 ≤ b.m)
    have := Rat.mul_le_mul_of_nonneg_right hb mb
    have e : qM (b :: r) = (b.m : Rat) + qM r := by unfold qM; simp [gM]
    rw [e]
    show (b.m : Rat) * b.p + gX r ≤ _
    grind
def Up (g : List Bw) : Prop := g.Pairwise fun a b => a.p < b.p
/-- at the start a beginning is behind the whole -/
theorem start_lt {a b : List Bw} (p : PosG (a ++ b)) (na : a ≠ []) (nb : b ≠ []) (u : Up (a ++ b)) : gX a * qM b < gX b * qM a := by
  obtain ⟨u1, u2, u3⟩ := List.pairwise_append.mp u
  have qa := qM_pos p.l na
  have qb := qM_pos p.r nb
  cases b with
  | nil => exact absurd rfl nb
  | cons y r =>
    have lo := gX_lo (P := y.p) p.r fun c hc => by
      rcases List.mem_cons.mp hc with rfl | hc
      · exact Rat.le_refl
      · exact Rat.le_of_lt ((List.pairwise_cons.mp u2).1 c hc)
    have hi : gX a < y.p * qM a := by
      cases a with
      | nil => exact absurd rfl na
      | cons x s =>
        have h1 := gX_hi (P := y.p) (g := s) (fun c hc => p c (List.mem_append_left _ (List.mem_cons_of_mem _ hc))) fun c hc => Rat.le_of_lt (u3 c (List.mem_cons_of_mem _ hc) y List.mem_cons_self)
        have h2 := u3 x List.mem_cons_self y List.mem_cons_self
        have mx : (0 : Rat) < (x.m : Rat) := by
          have := p x (List.mem_append_left _ List.mem_cons_self)
          exact_mod_cast (by omega : 0 < x.m)
        have h3 : 0 < (y.p - x.p) * (x.m : Rat) := Rat.mul_pos (by grind) mx
        have e : qM (x :: s) = (x.m : Rat) + qM s := by unfold qM; simp [gM]
        rw [e]
        show (x.m : Rat) * x.p + gX s < _
        grind
    have k1 : 0 < (y.p * qM a - gX a) * qM (y :: r) := Rat.mul_pos (by grind) qb
    have k2 := Rat.mul_le_mul_of_nonneg_right lo (Rat.le_of_lt qa)
    grind
theorem on_lin {xa va xb vb ma mb t t' : Rat} (s0 : xa * mb < xb * ma) (t0 : 0 ≤ t) (le : t ≤ t') (f2 : (xb + vb * t) * ma ≤ (xa + va * t) * mb) : (xb + vb * t') * ma ≤ (xa + va * t') * mb := by
  obtain ⟨A, hA⟩ : ∃ A, A = xa * mb - xb * ma := ⟨_, rfl⟩
  obtain ⟨B, hB⟩ : ∃ B, B = va * mb - vb * ma := ⟨_, rfl⟩
  have e1 : (xa + va * t) * mb - (xb + vb * t) * ma = A + B * t := by rw [hA, hB]; grind
  have e2 : (xa + va * t') * mb - (xb + vb * t') * ma = A + B * t' := by rw [hA, hB]; grind
  have a0 : A < 0 := by grind
  clear hA hB s0
  have f3 : 0 ≤ A + B * t := by grind
  suffices 0 ≤ A + B * t' by grind
  have b0 : 0 ≤ B := by
    refine Classical.byContradiction fun z => ?_
    have : 0 ≤ (0 - B) * t := Rat.mul_nonneg (by grind) t0
    grind
  have : 0 ≤ B * (t' - t) := Rat.mul_nonneg b0 (by grind)
  grind
/-- what is held together stays so -/
theorem bd_on {g : List Bw} {t t' : Rat} (p : PosG g) (u : Up g) (t0 : 0 ≤ t) (le : t ≤ t') (h : HbT t g) : HbT t' g := fun a b e => by
  subst e
  by_cases na : a = []
  · rw [na, qM_nil, sS_nil]; grind
  by_cases nb : b = []
  · rw [nb, List.append_nil] at p ⊢
    rw [gp_mul p na]
    exact Rat.le_refl
  have h1 := h a b rfl
  have ng : a ++ b ≠ [] := by simp [na]
  have m1 := gp_mul p ng t
  have m2 := gp_mul p ng t'
  have q := qM_pos p ng
  have qa := qM_pos p.l na
  have qb := qM_pos p.r nb
  have s0 := start_lt p na nb u
  -- all times the whole's weight
  have f1 : sS (a ++ b) t * qM a ≤ sS a t * qM (a ++ b) := by
    have := Rat.mul_le_mul_of_nonneg_right h1 (Rat.le_of_lt q)
    rw [← m1, Rat.mul_assoc, Rat.mul_comm (qM (a ++ b)), ← Rat.mul_assoc]
    exact this
  refine le_of_mul' q ?_
  have g1 : gp (a ++ b) t' * qM a * qM (a ++ b) = sS (a ++ b) t' * qM a := by
    rw [← m2, Rat.mul_assoc, Rat.mul_comm (qM a), ← Rat.mul_assoc]
  rw [g1]
  rw [sS_app, qM_app] at f1 ⊢
  have f2 : sS b t * qM a ≤ sS a t * qM b := by grind
  suffices sS b t' * qM a ≤ sS a t' * qM b by grind
  unfold sS at f2 ⊢
  exact on_lin s0 t0 le f2
def BdR (t : Rat) (gs : List Gp) : Prop := ∀ x ∈ gs, x.2 ≠ [] ∧ PosG x.2 ∧ HbT t x.2
theorem mgo_bd {t : Rat} : ∀ (r : List Gp) (y : Gp), BdR t (y :: r) → BdR t (mgo t y r)
  | [], y, h => by
    have : mgo t y [] = [y] := by simp [mgo]
    rw [this]
    exact h
  | x :: r, y, h => by
    obtain ⟨n1, p1, b1⟩ := h y List.mem_cons_self
    obtain ⟨n2, p2, b2⟩ := h x (List.mem_cons_of_mem _ List.mem_cons_self)
    unfold mgo
    split
    · rename_i e
      refine mgo_bd r _ fun z hz => ?_
      rcases List.mem_cons.mp hz with rfl | hz
      · exact ⟨by simp [n1], fun c hc => by
          rcases List.mem_append.mp hc with w | w
          · exact p1 c w
          · exact p2 c w, bd_join p1 p2 n1 n2 b1 b2 e⟩
      · exact h z (List.mem_cons_of_mem _ (List.mem_cons_of_mem _ hz))
    · intro z hz
      rcases List.mem_cons.mp hz with rfl | hz
      · exact ⟨n1, p1, b1⟩
      · exact mgo_bd r x (fun w hw => h w (List.mem_cons_of_mem _ hw)) z hz
theorem bdr_on {gs : List Gp} {t t' : Rat} (u : Up (gs.flatMap (·.2))) (t0 : 0 ≤ t) (le : t ≤ t') (h : BdR t gs) : BdR t' gs := fun x hx => by
  obtain ⟨n1, p1, b1⟩ := h x hx
  refine ⟨n1, p1, bd_on p1 ?_ t0 le b1⟩
  obtain ⟨a, b, rfl⟩ := List.append_of_mem hx
  rw [List.flatMap_append, List.flatMap_cons] at u
  have := (List.pairwise_append.mp u).2.1
  exact (List.pairwise_append.mp this).1
theorem atG_bd {bs : List Bw} {m : Rat} (u : Up bs) : ∀ (n : Nat) (t : Rat) (gs : List Gp), CI bs t gs → 0 ≤ t → t ≤ m → BdR t gs → BdR m (atG m n t gs)
  | 0, t, gs, c, t0, le, h => bdr_on (gs := gs) (by rw [c.fl]; exact u) t0 le h
  | n + 1, t, gs, c, t0, le, h => by
    unfold atG
    cases e : nxt t gs with
    | none => exact bdr_on (by rw [c.fl]; exact u) t0 le h
    | some t' =>
      dsimp only
      obtain ⟨lt, c', _⟩ := c.step e
      split
      · exact bdr_on (by rw [c.fl]; exact u) t0 le h
      · rename_i k
        refine atG_bd u n t' _ c' (by grind) (by grind) ?_
        have h' : BdR t' gs := bdr_on (by rw [c.fl]; exact u) t0 (Rat.le_of_lt lt) h
        cases gs with
        | nil => exact h'
        | cons y r => exact mgo_bd r y h'
theorem sng_bdr {bs : List Bw} (ok : ∀ b ∈ bs, 1 ≤ b.m) (i : Nat) (t : Rat) : BdR t (sng i bs) := fun x hx => by
  obtain ⟨b, hb, e⟩ := sng_mem bs i x hx
  rw [e]
  exact ⟨by simp, fun c hc => by rw [List.mem_singleton.mp hc]; exact ok b hb, sS_one t (ok b hb)⟩
/-- who is told by the run at a moment is there then -/
theorem run_there {bs : List Bw} : ∀ (n : Nat) (t : Rat) (gs : List Gp), CI bs t gs → ∀ y ∈ runG n t gs, t < y.1 ∧ y.2 ∈ atG y.1 n t gs
  | 0, _, _, _, y, hy => by cases hy
  | n + 1, t, gs, c, y, hy => by
    unfold runG at hy
    unfold atG
    cases e : nxt t gs with
    | none => rw [e] at hy; cases hy
    | some t' =>
      rw [e] at hy
      dsimp only at hy ⊢
      obtain ⟨lt, c', _⟩ := c.step e
      rcases List.mem_append.mp hy with z | z
      · obtain ⟨x, hx, rfl⟩ := List.mem_map.mp z
        refine ⟨lt, ?_⟩
        rw [if_neg (by grind)]
        have hx := (List.mem_filter.mp hx).1
        cases n with
        | zero => exact hx
        | succ n =>
          unfold atG
          cases e2 : nxt t' (mrg t' gs) with
          | none => exact hx
          | some t2 =>
            dsimp only
            have := (c'.step e2).1
            rw [if_pos this]
            exact hx
      · obtain ⟨h1, h2⟩ := run_there n t' _ c' y z
        refine ⟨by grind, ?_⟩
        rw [if_neg (by grind)]
        exact h2
/-- the clumps of a moment, as they must be -/
structure ClOk (W : List Bw) (t : Rat) (gs : List Gp) : Prop where
  ok : RowOk gs
  fl : gs.flatMap (·.2) = W
  up : Chn (lt_at t) gs
  ct : Chn ct_ gs
theorem row_len {gs : List Gp} (ok : RowOk gs) : gs.length ≤ 12 := by
  have h2 := ok.2.le
  have : ∀ (gs : List Gp), (∀ x ∈ gs, x.2 ≠ []) → gs.length ≤ (gs.flatMap (·.2)).length := fun gs => by
    induction gs with
    | nil => intro _; simp
    | cons x r ih =>
      intro h
      have hx := h x List.mem_cons_self
      have ih := ih fun y hy => h y (List.mem_cons_of_mem _ hy)
      rw [List.flatMap_cons, List.length_append, List.length_cons]
      have : 0 < x.2.length := List.length_pos_iff.mpr hx
      omega
  have := this gs fun x hx => ok.1 x hx
  omega
theorem atI_of84 {α : Type} {xs : List α} {i : Int} {x : α} (h0 : 0 ≤ i) (h : xs[i.toNat]? = some x) : L2.atI xs i = some x := by
  have hl := (List.getElem?_eq_some_iff.mp h).1
  unfold L2.atI L2.ixN
  rw [if_pos h0, if_pos (by omega)]
  exact h
theorem atI_nat84 {α : Type} {xs : List α} {i : Nat} {x : α} (h : xs[i]? = some x) : L2.atI xs (i : Int) = some x := atI_of84 (by omega) (by simpa using h)
theorem sng_len : ∀ (bs : List Bw) (i : Nat), (sng i bs).length = bs.length
  | [], _ => rfl
  | b :: bs, i => by
    show (sng (i + 1) bs).length + 1 = _
    rw [sng_len bs (i + 1)]
    rfl
theorem clAt_ok {W : List Bw} (cw : GWorld W) {m : Rat} (m0 : 0 ≤ m) : ClOk W m (clAt W m) := by
  have hl : (sng 0 W).length ≤ 13 + 1 := by rw [sng_len]; have := cw.le; omega
  obtain ⟨t0, q1, q2, c, q4⟩ := atG_st (m := m) 13 0 (sng 0 W) cw.ci m0 hl
  refine ⟨c.ok, c.fl, ?_, c.ct⟩
  have e : t0 + (m - t0) = m := by grind
  have := chn_lt (t := t0) (m := m - t0) (by grind) c.up fun q hq => ?_
  · rw [e] at this
    exact this
  · have hl : ∃ x, least none (tms t0 (atG m 13 0 (sng 0 W))) = some x := by
      cases hh : least none (tms t0 (atG m 13 0 (sng 0 W))) with
      | none =>
        exfalso
        have : ∀ (qs : List Rat) (a : Option Rat), least a qs = none → a = none ∧ qs = [] := fun qs => by
          induction qs with
          | nil => intro a h; exact ⟨h, rfl⟩
          | cons q qs ih =>
            intro a h
            cases a with
            | none => have := (ih _ h).1; cases this
            | some a => have := (ih _ h).1; split at this <;> cases this
        have := (this _ _ hh).2
        rw [this] at hq
        cases hq
      | some x => exact ⟨x, rfl⟩
    obtain ⟨x, hx⟩ := hl
    have h1 := (least_spec _ _ _ hx).1 q hq
    have h2 := q4 (t0 + x) (by unfold nxt; rw [hx]; rfl)
    grind
theorem clumps_at_f {st : Bool} {W : List Bw} {t : Rat} {K : EV → List Sl → Prop} {E : Exc → List Sl → Prop} (cw : GWorld W) (mo : MoOk t) (k : K (.m (.l ((clAt W t).map (clD t)))) []) : F_clumps_at [.v (.lst st (W.map wD)), .v (frD t)] K E := ⟨st, W, frD t, rfl, cw, .inl ⟨t, rfl, mo, k⟩⟩
theorem atG_hd {bs : List Bw} {m : Rat} : ∀ (n : Nat) (t : Rat) (gs : List Gp), CI bs t gs → Hd0 gs → Hd0 (atG m n t gs)
  | 0, _, _, _, h => h
  | n + 1, t, gs, c, h => by
    unfold atG
    cases e : nxt t gs with
    | none => exact h
    | some t' =>
      dsimp only
      split
      · exact h
      · exact atG_hd n t' _ (c.step e).2.1 (mrg_hd c e h)
theorem clAt_hd {W : List Bw} (cw : GWorld W) (m : Rat) : Hd0 (clAt W m) := atG_hd 13 0 (sng 0 W) cw.ci (by cases W <;> trivial)
theorem clAt_br {W : List Bw} (cw : GWorld W) {m : Rat} (m0 : 0 ≤ m) : ClR m (clAt W m) :=
  ⟨atG_bd cw.up 13 0 (sng 0 W) cw.ci Rat.le_refl m0 (sng_bdr (cw.ok) 0 0), (clAt_ok cw m0).up⟩
end VS
set_option Elab.async false
set_option linter.all false
set_option maxRecDepth 100000
set_option maxHeartbeats 4000000
/-! VM98: worlds of the law, and mirrored ones. Plain. Own work. -/
namespace VS
open PySem PySem.Spec PyProof.Rows
/-- bodies of the law's worlds, and their likes -/
structure CO2 (b : Bw) : Prop where
  p : Fq 6 3000 b.p
  u : Fq 72 302000 b.u
  m1 : 1 ≤ b.m
  m2 : b.m ≤ 80
abbrev All2 (g : List Bw) : Prop := ∀ b ∈ g, CO2 b
theorem All2.pos {g : List Bw} (h : All2 g) : PosG g := fun b hb => (h b hb).m1
theorem gM_bd2 : ∀ {g : List Bw}, All2 g → gM g ≤ 80 * g.length
  | [], _ => by simp [gM]
  | b :: r, h => by
    have hb := (h b List.mem_cons_self).m2
    have ih := gM_bd2 (g := r) fun c hc => h c (List.mem_cons_of_mem _ hc)
    simp only [gM, List.length_cons]
    push_cast
    omega
theorem gX_fq2 : ∀ {g : List Bw}, All2 g → Fq 6 (240000 * g.length) (gX g)
  | [], _ => ⟨0, by simp [gX]; grind, by simp, by simp⟩
  | b :: r, h => by
    have hb := h b List.mem_cons_self
    have ih := gX_fq2 (g := r) fun c hc => h c (List.mem_cons_of_mem _ hc)
    have m0 : 0 ≤ b.m := by have := hb.m1; omega
    exact ((hb.p.smul m0 hb.m2 (by decide)).add ih).mono (by simp only [List.length_cons]; push_cast; omega)
theorem gV_fq2 : ∀ {g : List Bw}, All2 g → Fq 72 (24160000 * g.length) (gV g)
  | [], _ => ⟨0, by simp [gV]; grind, by simp, by simp⟩
  | b :: r, h => by
    have hb := h b List.mem_cons_self
    have ih := gV_fq2 (g := r) fun c hc => h c (List.mem_cons_of_mem _ hc)
    have m0 : 0 ≤ b.m := by have := hb.m1; omega
    exact ((hb.u.smul m0 hb.m2 (by decide)).add ih).mono (by simp only [List.length_cons]; push_cast; omega)
theorem gquo_sm {D N W : Int} {q : Rat} {n : Nat} (h : Fq D N q) (hn : N < 2 ^ n) (n0 : 0 ≤ N) (d0 : 0 < D) (w0 : 0 < W) (hw : D * W < 2 ^ n) : Sm n (q / (W : Rat)) := by
  obtain ⟨k, rfl, k0, k1⟩ := h
  have e : (2 : Int) ^ n = ((2 ^ n : Nat) : Int) := by push_cast; rfl
  have sk : Si n k := by unfold Si; omega
  have dw : 0 < D * W := Int.mul_pos d0 w0
  have sd : Si n (D * W) := by unfold Si; omega
  have ee : (k : Rat) / (D : Rat) / (W : Rat) = (k : Rat) / ((D * W : Int) : Rat) := by
    have h1 : (D : Rat) ≠ 0 := by exact_mod_cast (by omega : D ≠ 0)
    have h2 : (W : Rat) ≠ 0 := by exact_mod_cast (by omega : W ≠ 0)
    rw [Rat.intCast_mul]
    grind
  rw [ee]
  have := Sm.div sk sd (by omega)
  rwa [Nat.max_self] at this
theorem gu_sm2 {g : List Bw} (h : All2 g) (ne : g ≠ []) (hl : g.length ≤ 12) : Sm 30 (gu g) := by
  have w0 := gM_pos h.pos ne
  have w1 := gM_bd2 h
  exact gquo_sm ((gV_fq2 h).mono (M := 289920000) (by omega)) (by decide) (by decide) (by decide) w0 (by
    have : (2 : Int) ^ 30 = 1073741824 := by decide
    omega)
theorem ga_sm2 {g : List Bw} (h : All2 g) (ne : g ≠ []) (hl : g.length ≤ 12) : Sm 30 (gX g / (gM g : Rat)) := by
  have w0 := gM_pos h.pos ne
  have w1 := gM_bd2 h
  exact gquo_sm ((gX_fq2 h).mono (M := 2880000) (by omega)) (by decide) (by decide) (by decide) w0 (by
    have : (2 : Int) ^ 30 = 1073741824 := by decide
    omega)
theorem go2 {g : List Bw} (h : All2 g) (ne : g ≠ []) (hl : g.length ≤ 12) : GOk g :=
  ⟨ne, hl, h.pos, by have := gM_bd2 h; omega, (ga_sm2 h ne hl).mono (by decide), (gu_sm2 h ne hl).mono (by decide)⟩
theorem sub2 {bs : List Bw} (h : All2 bs) (hl : bs.length ≤ 12) : SubOk bs := by
  refine ⟨hl, h.pos, fun a g b e ne => go2 (fun x hx => h x ?_) ne ?_⟩
  · rw [e]
    exact List.mem_append_right _ (List.mem_append_left _ hx)
  · rw [e] at hl
    simp at hl
    omega
theorem mt_sm2 {g h : List Bw} (hg : All2 g) (hh : All2 h) (ng : g ≠ []) (nh : h ≠ []) (lg : g.length ≤ 12) (lh : h.length ≤ 12) (lt : gu h < gu g) : Sm 122 (mt g h) := by
  exact (((ga_sm2 hh nh lh).sub (ga_sm2 hg ng lg)).quo ((gu_sm2 hg ng lg).sub (gu_sm2 hh nh lh)) (by grind)).mono (by decide)
theorem tms_at2 {t m : Rat} : ∀ {gs : List Gp}, RowOk gs → All2 (gs.flatMap (·.2)) → m ∈ tms t gs → Sm 122 (t + m)
  | [], _, _, h => by simp [tms] at h
  | [_], _, _, h => by simp [tms] at h
  | x :: y :: r, ok, al, h => by
    have h' : m ∈ (if gu y.2 < gu x.2 then [(gp y.2 t - gp x.2 t) / (gu x.2 - gu y.2)] else []) ++ tms t (y :: r) := h
    have gx := ok.g List.mem_cons_self
    have gy := ok.g (x := y) (List.mem_cons_of_mem _ List.mem_cons_self)
    rcases List.mem_append.mp h' with z | z
    · split at z
      · rename_i c
        rw [List.mem_singleton.mp z, mt_eq c]
        refine mt_sm2 (fun b hb => al b ?_) (fun b hb => al b ?_) gx.ne gy.ne gx.le gy.le c
        · exact List.mem_flatMap.mpr ⟨x, List.mem_cons_self, hb⟩
        · exact List.mem_flatMap.mpr ⟨y, List.mem_cons_of_mem _ List.mem_cons_self, hb⟩
      · simp at z
    · exact tms_at2 ok.tail (fun b hb => al b (by rw [List.flatMap_cons]; exact List.mem_append_right _ hb)) z
theorem nxt_sm2 {bs : List Bw} {t t' : Rat} {gs : List Gp} (al : All2 bs) (c : CI bs t gs) (h : nxt t gs = some t') : Sm 122 t' := by
  unfold nxt at h
  obtain ⟨m, hm, rfl⟩ := Option.map_eq_some_iff.mp h
  obtain ⟨_, _, h3⟩ := least_spec _ _ _ hm
  exact tms_at2 c.ok (by rw [c.fl]; exact al) (h3.resolve_right (fun z => nomatch z))
theorem run_times2 {bs : List Bw} (al : All2 bs) : ∀ (n : Nat) (t : Rat) (gs : List Gp), CI bs t gs → 0 ≤ t → ∀ x ∈ runG n t gs, Sm 122 x.1 ∧ 0 ≤ x.1
  | 0, _, _, _, _, x, hx => by cases hx
  | n + 1, t, gs, c, t0, x, hx => by
    unfold runG at hx
    cases e : nxt t gs with
    | none => rw [e] at hx; cases hx
    | some t' =>
      rw [e] at hx
      obtain ⟨lt, c', _⟩ := c.step e
      have t0' : 0 ≤ t' := by grind
      rcases List.mem_append.mp hx with hx | hx
      · obtain ⟨y, _, rfl⟩ := List.mem_map.mp hx
        exact ⟨nxt_sm2 al c e, t0'⟩
      · exact run_times2 al n t' _ c' t0' x hx
theorem CWorld.all2 {W : List Bw} (h : CWorld W) : All2 W := fun b hb => ⟨(h.ok b hb).p, (h.ok b hb).u.mono (by decide), (h.ok b hb).m1, (h.ok b hb).m2⟩
theorem CWorld.gw {W : List Bw} (h : CWorld W) : GWorld W := ⟨h.ne, sub2 h.all2 h.le, h.up⟩
/-! mirrored -/
def mirW (W : List Bw) : List Bw := W.reverse.map negW
theorem mirW_cons (b : Bw) (r : List Bw) : mirW (b :: r) = mirW r ++ [negW b] := by simp [mirW]
theorem mirW_app (g h : List Bw) : mirW (g ++ h) = mirW h ++ mirW g := by simp [mirW]
theorem mirW_len (g : List Bw) : (mirW g).length = g.length := by simp [mirW]
theorem mirW_nil {g : List Bw} : mirW g = [] ↔ g = [] := by simp [mirW]
theorem gM_mir : ∀ g : List Bw, gM (mirW g) = gM g
  | [] => rfl
  | b :: r => by
    rw [mirW_cons, gM_app, gM_mir r]
    simp [gM, negW]
    omega
theorem gX_mir : ∀ g : List Bw, gX (mirW g) = -gX g
  | [] => by simp [mirW, gX]
  | b :: r => by
    rw [mirW_cons, gX_app, gX_mir r]
    simp [gX, negW]
    grind
theorem gV_mir : ∀ g : List Bw, gV (mirW g) = -gV g
  | [] => by simp [mirW, gV]
  | b :: r => by
    rw [mirW_cons, gV_app, gV_mir r]
    simp [gV, negW]
    grind
theorem gp_mir (g : List Bw) (t : Rat) : gp (mirW g) t = -gp g t := by
  unfold gp
  rw [gM_mir, gX_mir, gV_mir, Rat.div_def, Rat.div_def]
  grind
theorem gu_mir (g : List Bw) : gu (mirW g) = -gu g := by
  unfold gu
  rw [gM_mir, gV_mir, Rat.div_def, Rat.div_def]
  grind
theorem sS_mir (g : List Bw) (t : Rat) : sS (mirW g) t = -sS g t := by
  unfold sS
  rw [gX_mir, gV_mir]
  grind
theorem qM_mir (g : List Bw) : qM (mirW g) = qM g := by unfold qM; rw [gM_mir]
theorem mirW_mir (g : List Bw) : mirW (mirW g) = g := by
  have := negneg g
  unfold mirW
  rw [List.map_reverse] at this ⊢
  simpa [List.map_reverse] using this
theorem pos_mir {g : List Bw} (h : PosG g) : PosG (mirW g) := fun b hb => by
  obtain ⟨c, hc, rfl⟩ := List.mem_map.mp hb
  exact h c (List.mem_reverse.mp hc)
theorem Fq.neg {D N : Int} {q : Rat} (h : Fq D N q) : Fq D N (-q) := by
  obtain ⟨k, rfl, k0, k1⟩ := h
  refine ⟨-k, ?_, by omega, by omega⟩
  rw [Rat.intCast_neg, Rat.div_def, Rat.div_def, Rat.neg_mul]
theorem all2_mir {g : List Bw} (h : All2 g) : All2 (mirW g) := fun b hb => by
  obtain ⟨c, hc, rfl⟩ := List.mem_map.mp hb
  have := h c (List.mem_reverse.mp hc)
  exact ⟨this.p.neg, this.u.neg, this.m1, this.m2⟩
theorem up_mir {g : List Bw} (h : Up g) : Up (mirW g) := by
  unfold Up mirW
  rw [List.pairwise_map, List.pairwise_reverse]
  exact h.imp fun {a b} h => by show -b.p < -a.p; grind
theorem CWorld.mir {W : List Bw} (h : CWorld W) : GWorld (mirW W) := ⟨fun z => h.ne (mirW_nil.mp z), sub2 (all2_mir h.all2) (by rw [mirW_len]; exact h.le), up_mir h.up⟩
theorem hb_mir {g : List Bw} {t : Rat} (p : PosG g) (ne : g ≠ []) (h : HbT t g) : HbT t (mirW g) := fun a b e => by
  have e2 : g = mirW b ++ mirW a := by rw [← mirW_app, ← e, mirW_mir]
  have h1 := h _ _ e2
  have m1 := gp_mul p ne t
  have m2 : gp g t * (qM (mirW b) + qM (mirW a)) = sS (mirW b) t + sS (mirW a) t := by
    rw [← qM_app, ← sS_app, ← e2]
    exact m1
  rw [gp_mir]
  rw [qM_mir, sS_mir] at h1
  rw [qM_mir, qM_mir, sS_mir, sS_mir] at m2
  grind
theorem Chn.mem {R : Gp → Gp → Prop} {P : Gp → Prop} : ∀ {l : List Gp}, (∀ z ∈ l, P z) → Chn R l → Chn (fun x y => R x y ∧ P x ∧ P y) l
  | [], _, _ => trivial
  | [_], _, _ => trivial
  | x :: y :: r, h, c => ⟨⟨c.1, h x List.mem_cons_self, h y (List.mem_cons_of_mem _ List.mem_cons_self)⟩, Chn.mem (l := y :: r) (fun z hz => h z (List.mem_cons_of_mem _ hz)) c.2⟩
theorem Chn.map {R S : Gp → Gp → Prop} {f : Gp → Gp} (h : ∀ x y, S x y → R (f x) (f y)) : ∀ {l : List Gp}, Chn S l → Chn R (l.map f)
  | [], _ => trivial
  | [_], _ => trivial
  | x :: y :: r, c => ⟨h x y c.1, Chn.map h (l := y :: r) c.2⟩
theorem chn_snoc {R : Gp → Gp → Prop} {a b : Gp} (h : R a b) : ∀ {l : List Gp}, Chn R (l ++ [a]) → Chn R (l ++ [a] ++ [b])
  | [], _ => ⟨h, trivial⟩
  | [x], c => ⟨c.1, h, trivial⟩
  | x :: y :: r, c => ⟨c.1, chn_snoc h (l := y :: r) c.2⟩
theorem Chn.rev {R : Gp → Gp → Prop} : ∀ {l : List Gp}, Chn R l → Chn (fun x y => R y x) l.reverse
  | [], _ => trivial
  | [_], _ => trivial
  | x :: y :: r, c => by
    have ih := Chn.rev (l := y :: r) c.2
    rw [List.reverse_cons] at ih ⊢
    rw [List.reverse_cons]
    exact chn_snoc (R := fun x y => R y x) c.1 ih
def mirX (n : Nat) (x : Gp) : Gp := (n - (x.1 + x.2.length), mirW x.2)
def mirR (n : Nat) (gs : List Gp) : List Gp := gs.reverse.map (mirX n)
theorem mirR_flat (n : Nat) : ∀ gs : List Gp, (mirR n gs).flatMap (·.2) = mirW (gs.flatMap (·.2))
  | [] => rfl
  | x :: r => by
    have ih := mirR_flat n r
    unfold mirR at ih ⊢
    rw [List.reverse_cons, List.map_append, List.flatMap_append, ih, List.flatMap_cons, mirW_app]
    simp [mirX]
theorem ct_end : ∀ (gs : List Gp) (i : Nat), Chn ct_ gs → (∀ y r, gs = y :: r → y.1 = i) → ∀ l x, gs = l ++ [x] → x.1 + x.2.length = i + (gs.flatMap (·.2)).length
  | [], _, _, _, l, x, e => by simp at e
  | [y], i, c, h, l, x, e => by
    have := h y [] rfl
    have ex : x = y := by
      cases l with
      | nil => exact (List.cons.inj e).1.symm
      | cons a l => have := (List.cons.inj e).2; simp at this
    rw [ex]
    simp
    omega
  | y :: z :: r, i, c, h, l, x, e => by
    have hy := h y _ rfl
    cases l with
    | nil => have := (List.cons.inj e).2; simp at this
    | cons a l =>
      have e2 := (List.cons.inj e).2
      have hz : z.1 = y.1 + y.2.length := c.1
      have := ct_end (z :: r) (i + y.2.length) c.2 (fun w s ew => by have := (List.cons.inj ew).1; rw [← this]; omega) l x e2
      rw [List.flatMap_cons, List.length_append]
      omega
/-- the clumps, mirrored -/
theorem mir_cl {W : List Bw} (cw : CWorld W) {m : Rat} (m0 : 0 ≤ m) : clAt (mirW W) m = mirR W.length (clAt W m) := by
  have b := clAt_br cw.mir m0
  have c := clAt_ok cw.mir m0
  have hd := clAt_hd cw.mir m
  have b' := clAt_br cw.gw m0
  have c' := clAt_ok cw.gw m0
  have hd' := clAt_hd cw.gw m
  generalize clAt (mirW W) m = A at *
  generalize clAt W m = B at *
  have bd : ∀ z ∈ B, z.1 + z.2.length ≤ W.length := fun z hz => by
    have := (seg_go B 0 c'.ct (fun y r e => by subst e; exact hd') z hz).2.2
    rw [c'.fl] at this
    omega
  have ct1 : Chn ct_ (mirR W.length B) := by
    have h1 := (Chn.mem bd c'.ct).rev
    refine Chn.map (fun x y h => ?_) h1
    obtain ⟨h1, h2, h3⟩ := h
    have h1 : x.1 = y.1 + y.2.length := h1
    show W.length - (y.1 + y.2.length) = W.length - (x.1 + x.2.length) + (mirW x.2).length
    rw [mirW_len]
    omega
  have up1 : Chn (lt_at m) (mirR W.length B) := by
    refine Chn.map (fun x y h => ?_) b'.up.rev
    have h : gp y.2 m < gp x.2 m := h
    show gp (mirW x.2) m < gp (mirW y.2) m
    rw [gp_mir, gp_mir]
    grind
  have ok1 : ∀ x ∈ mirR W.length B, x.2 ≠ [] ∧ PosG x.2 ∧ HbT m x.2 := fun x hx => by
    obtain ⟨y, hy, rfl⟩ := List.mem_map.mp hx
    obtain ⟨h1, h2, h3⟩ := b'.ok y (List.mem_reverse.mp hy)
    exact ⟨fun z => h1 (mirW_nil.mp z), pos_mir h2, hb_mir h2 h1 h3⟩
  refine ct_same _ _ c.ct ct1 (fun x r y s ex ey => ?_) (br_uniq _ _ b ⟨ok1, up1⟩ (by rw [c.fl, mirR_flat, c'.fl]))
  rw [ex] at hd
  have hx : x.1 = 0 := hd
  rw [hx]
  unfold mirR at ey
  obtain ⟨z, w, ez, ey1⟩ : ∃ z w, B.reverse = z :: w ∧ mirX W.length z = y := by
    cases hB : B.reverse with
    | nil => rw [hB] at ey; cases ey
    | cons z w =>
      rw [hB] at ey
      exact ⟨z, w, rfl, (List.cons.inj ey).1⟩
  have eB : B = w.reverse ++ [z] := by
    have := congrArg List.reverse ez
    simpa using this
  have := ct_end B 0 c'.ct (fun y r e => by subst e; exact hd') _ z eB
  rw [c'.fl] at this
  rw [← ey1]
  show 0 = W.length - (z.1 + z.2.length)
  omega
end VS
set_option Elab.async false
set_option linter.all false
set_option maxRecDepth 100000
set_option maxHeartbeats 4000000
/-! VM99: clumps seen from whoever goes along. Plain. Own work. -/
namespace VS
open PySem PySem.Spec PyProof.Rows
def svB (c : Rat) (b : Bw) : Bw := ⟨b.p, b.u - c, b.m⟩
def svG (c : Rat) (g : List Bw) : List Bw := g.map (svB c)
def svX (c : Rat) (x : Gp) : Gp := (x.1, svG c x.2)
theorem svG_app (c : Rat) (g h : List Bw) : svG c (g ++ h) = svG c g ++ svG c h := List.map_append
theorem svG_len (c : Rat) (g : List Bw) : (svG c g).length = g.length := List.length_map _
theorem svG_nil {c : Rat} {g : List Bw} : svG c g = [] ↔ g = [] := List.map_eq_nil_iff
theorem gM_sv (c : Rat) : ∀ g : List Bw, gM (svG c g) = gM g
  | [] => rfl
  | b :: r => by
    have := gM_sv c r
    show b.m + gM (svG c r) = b.m + gM r
    rw [this]
theorem gX_sv (c : Rat) : ∀ g : List Bw, gX (svG c g) = gX g
  | [] => rfl
  | b :: r => by
    have := gX_sv c r
    show (b.m : Rat) * b.p + gX (svG c r) = (b.m : Rat) * b.p + gX r
    rw [this]
theorem gV_sv (c : Rat) : ∀ g : List Bw, gV (svG c g) = gV g - c * (gM g : Rat)
  | [] => by simp [svG, gV, gM]; grind
  | b :: r => by
    have := gV_sv c r
    show (b.m : Rat) * (b.u - c) + gV (svG c r) = (b.m : Rat) * b.u + gV r - c * ((b.m + gM r : Int) : Rat)
    rw [this, Rat.intCast_add]
    grind
theorem gu_sv {c : Rat} {g : List Bw} (p : PosG g) (ne : g ≠ []) : gu (svG c g) = gu g - c := by
  have := gMq p ne
  unfold gu
  rw [gM_sv, gV_sv, Rat.div_def, Rat.div_def]
  have e : (gM g : Rat) * (gM g : Rat)⁻¹ = 1 := Rat.mul_inv_cancel _ (by grind)
  generalize (gM g : Rat)⁻¹ = y at *
  grind
theorem gp_sv {c : Rat} {g : List Bw} {t : Rat} (p : PosG g) (ne : g ≠ []) : gp (svG c g) t = gp g t - c * t := by
  have := gMq p ne
  unfold gp
  rw [gM_sv, gV_sv, gX_sv, Rat.div_def, Rat.div_def]
  have e : (gM g : Rat) * (gM g : Rat)⁻¹ = 1 := Rat.mul_inv_cancel _ (by grind)
  generalize (gM g : Rat)⁻¹ = y at *
  grind
def NeP (gs : List Gp) : Prop := ∀ x ∈ gs, x.2 ≠ [] ∧ PosG x.2
theorem CI.nep {bs : List Bw} {t : Rat} {gs : List Gp} (c : CI bs t gs) : NeP gs := fun x hx => ⟨(c.ok.g hx).ne, (c.ok.g hx).ok⟩
theorem NeP.tail {x : Gp} {r : List Gp} (h : NeP (x :: r)) : NeP r := fun y hy => h y (List.mem_cons_of_mem _ hy)
theorem tms_sv {c t : Rat} : ∀ {gs : List Gp}, NeP gs → tms t (gs.map (svX c)) = tms t gs
  | [], _ => rfl
  | [_], _ => rfl
  | x :: y :: r, h => by
    obtain ⟨n1, p1⟩ := h x List.mem_cons_self
    obtain ⟨n2, p2⟩ := h y (List.mem_cons_of_mem _ List.mem_cons_self)
    have ih := tms_sv (c := c) (t := t) (gs := y :: r) h.tail
    show (if gu (svG c y.2) < gu (svG c x.2) then [(gp (svG c y.2) t - gp (svG c x.2) t) / (gu (svG c x.2) - gu (svG c y.2))] else []) ++ tms t ((y :: r).map (svX c)) = (if gu y.2 < gu x.2 then [(gp y.2 t - gp x.2 t) / (gu x.2 - gu y.2)] else []) ++ tms t (y :: r)
    rw [ih, gu_sv p1 n1, gu_sv p2 n2, gp_sv p1 n1, gp_sv p2 n2]
    have e1 : gp y.2 t - c * t - (gp x.2 t - c * t) = gp y.2 t - gp x.2 t := by grind
    have e2 : gu x.2 - c - (gu y.2 - c) = gu x.2 - gu y.2 := by grind
    rw [e1, e2]
    by_cases k : gu y.2 < gu x.2
    · rw [if_pos k, if_pos (by grind)]
    · rw [if_neg k, if_neg (by grind)]
theorem nxt_sv {c t : Rat} {gs : List Gp} (h : NeP gs) : nxt t (gs.map (svX c)) = nxt t gs := by
  unfold nxt
  rw [tms_sv h]
theorem mgo_sv {c t : Rat} : ∀ (r : List Gp) (y : Gp), NeP (y :: r) → mgo t (svX c y) (r.map (svX c)) = (mgo t y r).map (svX c)
  | [], y, _ => by simp [mgo]
  | x :: r, y, h => by
    obtain ⟨n1, p1⟩ := h y List.mem_cons_self
    obtain ⟨n2, p2⟩ := h x (List.mem_cons_of_mem _ List.mem_cons_self)
    have i1 := mgo_sv (c := c) (t := t) r (y.1, y.2 ++ x.2) fun z hz => by
      rcases List.mem_cons.mp hz with rfl | hz
      · exact ⟨by simp [n1], fun b hb => by
          rcases List.mem_append.mp hb with w | w
          · exact p1 b w
          · exact p2 b w⟩
      · exact h z (List.mem_cons_of_mem _ (List.mem_cons_of_mem _ hz))
    have i2 := mgo_sv (c := c) (t := t) r x h.tail
    have e1 : svX c (y.1, y.2 ++ x.2) = (y.1, svG c y.2 ++ svG c x.2) := by unfold svX; rw [svG_app]
    rw [e1] at i1
    rw [List.map_cons]
    unfold mgo
    show (if gp (svG c y.2) t = gp (svG c x.2) t then mgo t (y.1, svG c y.2 ++ svG c x.2) (r.map (svX c)) else svX c y :: mgo t (svX c x) (r.map (svX c))) = (if gp y.2 t = gp x.2 t then mgo t (y.1, y.2 ++ x.2) r else y :: mgo t x r).map (svX c)
    rw [gp_sv p1 n1, gp_sv p2 n2, i1, i2]
    by_cases k : gp y.2 t = gp x.2 t
    · rw [if_pos k, if_pos (by grind)]
    · rw [if_neg k, if_neg (by grind)]
      rfl
theorem mrg_sv {c t : Rat} {gs : List Gp} (h : NeP gs) : mrg t (gs.map (svX c)) = (mrg t gs).map (svX c) := by
  cases gs with
  | nil => rfl
  | cons y r => exact mgo_sv r y h
theorem lastI_sv (c : Rat) (x : Gp) : lastI (svX c x) = lastI x := by
  unfold lastI
  show (x.1 : Int) + ((svG c x.2).length : Int) - 1 = _
  rw [svG_len]
theorem fresh_sv (c : Rat) (gs : List Gp) (x : Gp) : fresh (gs.map (svX c)) (svX c x) = fresh gs x := by
  unfold fresh
  rw [List.any_map, lastI_sv]
  congr 2
  funext y
  show (((y.1 : Nat) : Int) == ((x.1 : Nat) : Int) && lastI (svX c y) == lastI x) = _
  rw [lastI_sv]
theorem filter_sv (c : Rat) (gs hs : List Gp) : (hs.map (svX c)).filter (fresh (gs.map (svX c))) = (hs.filter (fresh gs)).map (svX c) := by
  rw [List.filter_map]
  congr 1
  refine List.filter_congr fun x _ => ?_
  exact fresh_sv c gs x
theorem runG_sv {bs : List Bw} (c : Rat) : ∀ (n : Nat) (t : Rat) (gs : List Gp), CI bs t gs → runG n t (gs.map (svX c)) = (runG n t gs).map fun y => (y.1, svX c y.2)
  | 0, _, _, _ => rfl
  | n + 1, t, gs, ci => by
    unfold runG
    rw [nxt_sv ci.nep]
    cases e : nxt t gs with
    | none => rfl
    | some t' =>
      dsimp only
      obtain ⟨_, c', _⟩ := ci.step e
      rw [mrg_sv ci.nep, filter_sv, runG_sv c n t' _ c', List.map_append, List.map_map, List.map_map]
      rfl
theorem atG_sv {bs : List Bw} (c m : Rat) : ∀ (n : Nat) (t : Rat) (gs : List Gp), CI bs t gs → atG m n t (gs.map (svX c)) = (atG m n t gs).map (svX c)
  | 0, _, _, _ => rfl
  | n + 1, t, gs, ci => by
    unfold atG
    rw [nxt_sv ci.nep]
    cases e : nxt t gs with
    | none => rfl
    | some t' =>
      dsimp only
      obtain ⟨_, c', _⟩ := ci.step e
      by_cases k : m < t'
      · rw [if_pos k, if_pos k]
      · rw [if_neg k, if_neg k, mrg_sv ci.nep, atG_sv c m n t' _ c']
theorem sng_sv (c : Rat) : ∀ (bs : List Bw) (i : Nat), sng i (svG c bs) = (sng i bs).map (svX c)
  | [], _ => rfl
  | b :: r, i => by
    show (i, [svB c b]) :: sng (i + 1) (svG c r) = svX c (i, [b]) :: (sng (i + 1) r).map (svX c)
    rw [sng_sv c r]
    rfl
theorem sv_cl {W : List Bw} (cw : CWorld W) (c m : Rat) : clAt (svG c W) m = (clAt W m).map (svX c) := by
  unfold clAt
  rw [sng_sv, atG_sv c m 13 0 _ cw.gw.ci]
theorem sv_run {W : List Bw} (cw : CWorld W) (c : Rat) : runG 13 0 (sng 0 (svG c W)) = (runG 13 0 (sng 0 W)).map fun y => (y.1, svX c y.2) := by
  rw [sng_sv, runG_sv c 13 0 _ cw.gw.ci]
theorem CWorld.sv {W : List Bw} (h : CWorld W) {c : Rat} (hc : Fq 72 2000 c) : GWorld (svG c W) := by
  refine ⟨fun z => h.ne (svG_nil.mp z), sub2 (fun b hb => ?_) (by rw [svG_len]; exact h.le), ?_⟩
  · obtain ⟨a, ha, rfl⟩ := List.mem_map.mp hb
    have := h.ok a ha
    refine ⟨this.p, ?_, this.m1, this.m2⟩
    show Fq 72 302000 (a.u - c)
    have := this.u.add hc.neg
    rw [Rat.sub_eq_add_neg]
    exact this
  · unfold svG
    rw [List.pairwise_map]
    exact h.up
end VS
set_option Elab.async false
set_option linter.all false
set_option maxRecDepth 100000
set_option maxHeartbeats 4000000
/-! VM100: clumps taken as a world, gone on. Plain. Own work. -/
namespace VS
open PySem PySem.Spec PyProof.Rows
abbrev fl (L : List Gp) : List Bw := L.flatMap (·.2)
theorem fl_cons (x : Gp) (L : List Gp) : fl (x :: L) = x.2 ++ fl L := List.flatMap_cons
theorem fl_app (L M : List Gp) : fl (L ++ M) = fl L ++ fl M := List.flatMap_append
theorem fl_pos : ∀ {L : List Gp}, NeP L → PosG (fl L) := fun {L} h b hb => by
  obtain ⟨x, hx, hb⟩ := List.mem_flatMap.mp hb
  exact (h x hx).2 b hb
theorem fl_ne {L : List Gp} (h : NeP L) (ne : L ≠ []) : fl L ≠ [] := by
  cases L with
  | nil => exact absurd rfl ne
  | cons x r =>
    rw [fl_cons]
    intro z
    exact (h x List.mem_cons_self).1 (List.append_eq_nil_iff.mp z).1
theorem gM_bw (t : Rat) : ∀ L : List Gp, gM (L.map (bwT t)) = gM (fl L)
  | [] => rfl
  | x :: r => by
    have ih := gM_bw t r
    rw [fl_cons, gM_app, List.map_cons]
    show gM x.2 + gM (r.map (bwT t)) = _
    rw [ih]
theorem gV_bw (t : Rat) : ∀ {L : List Gp}, NeP L → gV (L.map (bwT t)) = gV (fl L)
  | [], _ => rfl
  | x :: r, h => by
    obtain ⟨n1, p1⟩ := h x List.mem_cons_self
    have h0 := gMq p1 n1
    have ih := gV_bw t h.tail
    rw [fl_cons, gV_app, List.map_cons]
    show (gM x.2 : Rat) * gu x.2 + gV (r.map (bwT t)) = _
    rw [ih]
    have : (gM x.2 : Rat) * gu x.2 = gV x.2 := by unfold gu; grind
    rw [this]
theorem gX_bw (t : Rat) : ∀ {L : List Gp}, NeP L → gX (L.map (bwT t)) = sS (fl L) t
  | [], _ => (sS_nil t).symm
  | x :: r, h => by
    obtain ⟨n1, p1⟩ := h x List.mem_cons_self
    have ih := gX_bw t h.tail
    rw [fl_cons, sS_app, List.map_cons]
    show (gM x.2 : Rat) * gp x.2 t + gX (r.map (bwT t)) = _
    rw [ih, ← gp_mul p1 n1 t, Rat.mul_comm]
    rfl
theorem sS_bw (t s : Rat) {L : List Gp} (h : NeP L) : sS (L.map (bwT t)) s = sS (fl L) (t + s) := by
  show gX (L.map (bwT t)) + gV (L.map (bwT t)) * s = _
  rw [gX_bw t h, gV_bw t h]
  unfold sS
  grind
theorem qM_bw (t : Rat) (L : List Gp) : qM (L.map (bwT t)) = qM (fl L) := by unfold qM; rw [gM_bw]
theorem gp_bw (t s : Rat) {L : List Gp} (h : NeP L) : gp (L.map (bwT t)) s = gp (fl L) (t + s) := by
  show sS (L.map (bwT t)) s / (gM (L.map (bwT t)) : Rat) = sS (fl L) (t + s) / (gM (fl L) : Rat)
  rw [sS_bw t s h, gM_bw]
theorem gu_bw (t : Rat) {L : List Gp} (h : NeP L) : gu (L.map (bwT t)) = gu (fl L) := by
  unfold gu
  rw [gV_bw t h, gM_bw]
theorem lin2 {G P f s m n S : Rat} (k : G * m ≤ s) (m1 : G * (m + n) = S) (h : 0 ≤ f + (S - P * (m + n))) (d : 0 ≤ (P - G) * n) : 0 ≤ f + (s - P * m) := by
  have e : (P - G) * n = P * n - G * n := by grind
  have e2 : G * (m + n) = G * m + G * n := by grind
  have e3 : P * (m + n) = P * m + P * n := by grind
  rw [e] at d
  rw [e2] at m1
  rw [e3] at h
  grind
theorem hb_pre {t P : Rat} : ∀ (L : List Gp) (f0 : Rat), NeP L → (∀ x ∈ L, HbT t x.2) → (∀ A B, L = A ++ B → 0 ≤ f0 + (sS (fl A) t - P * qM (fl A))) → ∀ a b, fl L = a ++ b → 0 ≤ f0 + (sS a t - P * qM a)
  | [], f0, _, _, h, a, b, e => by
    have := (List.append_eq_nil_iff.mp e.symm).1
    have h0 := h [] [] rfl
    rw [this]
    exact h0
  | x :: r, f0, np, hb, h, a, b, e => by
    obtain ⟨n1, p1⟩ := np x List.mem_cons_self
    have h0 := h [] (x :: r) rfl
    have h1 := h [x] r rfl
    have e0 : sS (fl []) t - P * qM (fl []) = 0 := by
      show sS [] t - P * qM [] = 0
      rw [sS_nil, qM_nil]
      grind
    have e1 : fl [x] = x.2 := by simp
    rw [e0] at h0
    rw [e1] at h1
    rw [fl_cons] at e
    rcases List.append_eq_append_iff.mp e with ⟨d, d1, d2⟩ | ⟨d, d1, d2⟩
    · have ih := hb_pre (t := t) (P := P) r (f0 + (sS x.2 t - P * qM x.2)) np.tail (fun y hy => hb y (List.mem_cons_of_mem _ hy)) (fun A B eA => by
        have := h (x :: A) B (by rw [eA]; rfl)
        rw [fl_cons, sS_app, qM_app] at this
        grind) d b d2
      rw [d1, sS_app, qM_app]
      grind
    · have k := hb x List.mem_cons_self a d d1
      have m1 := gp_mul p1 n1 t
      have q1 : qM x.2 = qM a + qM d := by rw [d1, qM_app]
      have p1' : PosG (a ++ d) := by rw [← d1]; exact p1
      have qa := qM_nn p1'.l
      have qd := qM_nn p1'.r
      generalize gp x.2 t = G at *
      by_cases c : P ≤ G
      · have := Rat.mul_nonneg (show 0 ≤ G - P by grind) qa
        grind
      · have := Rat.mul_nonneg (show 0 ≤ P - G by grind) qd
        rw [q1] at m1 h1
        exact lin2 k m1 h1 this
theorem hb_join {t1 t2 : Rat} {L : List Gp} (np : NeP L) (hb : ∀ x ∈ L, HbT (t1 + t2) x.2) (h : HbT t2 (L.map (bwT t1))) : HbT (t1 + t2) (fl L) := fun a b e => by
  have := hb_pre (t := t1 + t2) (P := gp (fl L) (t1 + t2)) L 0 np hb (fun A B eA => by
    have k := h (A.map (bwT t1)) (B.map (bwT t1)) (by rw [eA, List.map_append])
    have npA : NeP A := fun x hx => np x (by rw [eA]; exact List.mem_append_left _ hx)
    rw [gp_bw t1 t2 np, qM_bw, sS_bw t1 t2 npA] at k
    grind) a b e
  grind
theorem chn_pw {t : Rat} : ∀ {gs : List Gp}, Chn (lt_at t) gs → gs.Pairwise fun x y => gp x.2 t < gp y.2 t
  | [], _ => .nil
  | [_], _ => List.pairwise_singleton _ _
  | x :: y :: r, c => by
    have ih := chn_pw (gs := y :: r) c.2
    have c1 : gp x.2 t < gp y.2 t := c.1
    refine List.pairwise_cons.mpr ⟨fun z hz => ?_, ih⟩
    rcases List.mem_cons.mp hz with rfl | hz
    · exact c1
    · have := (List.pairwise_cons.mp ih).1 z hz
      grind
/-- the clumps of a moment, taken as a world -/
theorem bw_world {W : List Bw} (cw : CWorld W) {t : Rat} (t0 : 0 ≤ t) (st : Sm 200 t) : GWorld ((clAt W t).map (bwT t)) := by
  have c := clAt_ok cw.gw t0
  generalize clAt W t = gs at *
  have np : NeP gs := fun x hx => ⟨(c.ok.g hx).ne, (c.ok.g hx).ok⟩
  have lr := row_len c.ok
  refine ⟨fun z => cw.ne ?_, ⟨by rw [List.length_map]; exact lr, fun b hb => ?_, fun a g b e ne => ?_⟩, ?_⟩
  · rw [← c.fl, List.map_eq_nil_iff.mp z]
    rfl
  · obtain ⟨x, hx, rfl⟩ := List.mem_map.mp hb
    have := gM_pos (np x hx).2 (np x hx).1
    show 1 ≤ gM x.2
    omega
  · obtain ⟨A, M, eg, ea, em⟩ := List.map_eq_append_iff.mp e
    obtain ⟨L, B, el, eL, eB⟩ := List.map_eq_append_iff.mp em
    have npL : NeP L := fun x hx => np x (by rw [eg, el]; exact List.mem_append_right _ (List.mem_append_left _ hx))
    have neL : L ≠ [] := fun z => ne (by rw [← eL, z]; rfl)
    have eW : W = fl A ++ (fl L ++ fl B) := by rw [← c.fl, eg, el, ← fl_app, ← fl_app]
    have al : All2 (fl L) := fun b hb => cw.all2 b (by rw [eW]; exact List.mem_append_right _ (List.mem_append_left _ hb))
    have nf := fl_ne npL neL
    have lf : (fl L).length ≤ 12 := by
      have := cw.le
      rw [eW] at this
      simp only [List.length_append] at this
      omega
    have ll : L.length ≤ 12 := by
      have : gs.length = A.length + (L.length + B.length) := by rw [eg, el]; simp
      omega
    subst eL
    refine ⟨ne, by rw [List.length_map]; exact ll, fun b hb => ?_, ?_, ?_, ?_⟩
    · obtain ⟨x, hx, rfl⟩ := List.mem_map.mp hb
      have := gM_pos (npL x hx).2 (npL x hx).1
      show 1 ≤ gM x.2
      omega
    · rw [gM_bw]
      have := gM_bd2 al
      omega
    · rw [gX_bw t npL, gM_bw]
      show Sm 270 (gp (fl L) t)
      rw [gp_split]
      exact ((ga_sm2 al nf lf).add ((gu_sm2 al nf lf).mul st)).mono (by decide)
    · rw [gu_bw t npL]
      exact (gu_sm2 al nf lf).mono (by decide)
  · rw [List.pairwise_map]
    exact (chn_pw c.up)
/-- led back -/
def bk (gs : List Gp) (y : Gp) : Gp := ((fl (gs.take y.1)).length, fl ((gs.drop y.1).take y.2.length))
theorem bk_flat {gs : List Gp} {t : Rat} : ∀ (hs : List Gp) (i : Nat), Chn ct_ hs → (∀ y r, hs = y :: r → y.1 = i) → fl hs = (gs.drop i).map (bwT t) → fl (hs.map (bk gs)) = fl (gs.drop i)
  | [], i, _, _, e => by
    have : gs.drop i = [] := List.map_eq_nil_iff.mp e.symm
    rw [this]
    rfl
  | y :: r, i, c, h, e => by
    have hy := h y r rfl
    rw [fl_cons] at e
    have c2 : Chn ct_ r := Chn.tail c
    have h2 : ∀ z w, r = z :: w → z.1 = i + y.2.length := fun z w ez => by
      subst ez
      have : z.1 = y.1 + y.2.length := c.1
      omega
    obtain ⟨M, N, eg, e1, e2⟩ := List.map_eq_append_iff.mp e.symm
    have lM : M.length = y.2.length := by rw [← e1, List.length_map]
    have eN : gs.drop (i + y.2.length) = N := by
      rw [← List.drop_drop, eg, ← lM, List.drop_left]
    have ih := bk_flat (gs := gs) (t := t) r (i + y.2.length) c2 h2 (by rw [eN]; exact e2.symm)
    rw [List.map_cons, fl_cons, ih, eN]
    show fl ((gs.drop y.1).take y.2.length) ++ fl N = _
    rw [hy, eg, ← lM, List.take_left, ← fl_app]
theorem st_at : ∀ (gs : List Gp) (i : Nat), Chn ct_ gs → (∀ y r, gs = y :: r → y.1 = i) → ∀ k x, gs[k]? = some x → x.1 = i + (fl (gs.take k)).length
  | [], _, _, _, k, x, e => by simp at e
  | y :: r, i, c, h, 0, x, e => by
    have : y = x := by simpa using e
    have := h y r rfl
    subst y
    simp
    exact this
  | y :: r, i, c, h, k + 1, x, e => by
    have hy := h y r rfl
    have h2 : ∀ z w, r = z :: w → z.1 = i + y.2.length := fun z w ez => by
      subst ez
      have : z.1 = y.1 + y.2.length := c.1
      omega
    have := st_at r (i + y.2.length) (Chn.tail c) h2 k x (by simpa using e)
    rw [List.take_succ_cons, fl_cons, List.length_append]
    omega
structure Back (W : List Bw) (t1 t2 : Rat) (gs hs : List Gp) : Prop where
  cl : clAt W (t1 + t2) = hs.map (bk gs)
  el : ∀ y ∈ hs, ∃ a z, gs[y.1]? = some a ∧ gs[y.1 + y.2.length - 1]? = some z ∧ 0 < y.2.length ∧ a.1 = (bk gs y).1 ∧ lastI z = lastI (bk gs y) ∧ gp y.2 t2 = gp (bk gs y).2 (t1 + t2) ∧ gu y.2 = gu (bk gs y).2 ∧ gM y.2 = gM (bk gs y).2
theorem back_cl {W : List Bw} (cw : CWorld W) {t1 t2 : Rat} (p1 : 0 ≤ t1) (p2 : 0 ≤ t2) (s1 : Sm 200 t1) : Back W t1 t2 (clAt W t1) (clAt ((clAt W t1).map (bwT t1)) t2) := by
  have gw := bw_world cw p1 s1
  have c := clAt_ok cw.gw p1
  have b := clAt_br cw.gw p1
  have hd := clAt_hd cw.gw t1
  have c' := clAt_ok gw p2
  have b' := clAt_br gw p2
  have hd' := clAt_hd gw t2
  have p12 : 0 ≤ t1 + t2 := by grind
  have cf := clAt_ok cw.gw p12
  have bf := clAt_br cw.gw p12
  have hdf := clAt_hd cw.gw (t1 + t2)
  generalize hg : clAt W t1 = gs at *
  generalize clAt (gs.map (bwT t1)) t2 = hs at *
  obtain ⟨F, hF⟩ : ∃ F, F = clAt W (t1 + t2) := ⟨_, rfl⟩
  rw [← hF] at cf bf hdf
  have np : NeP gs := fun x hx => ⟨(c.ok.g hx).ne, (c.ok.g hx).ok⟩
  have h0 : ∀ y r, gs = y :: r → y.1 = 0 := fun y r e => by subst e; exact hd
  have h0' : ∀ y r, hs = y :: r → y.1 = 0 := fun y r e => by subst e; exact hd'
  have seg : ∀ y ∈ hs, y.2 = ((gs.drop y.1).take y.2.length).map (bwT t1) ∧ y.1 + y.2.length ≤ gs.length := fun y hy => by
    obtain ⟨_, q2, q3⟩ := seg_go hs 0 c'.ct h0' y hy
    rw [c'.fl] at q2 q3
    rw [Nat.sub_zero] at q2 q3
    rw [List.length_map] at q3
    refine ⟨?_, q3⟩
    rw [List.map_take, List.map_drop]
    exact q2
  have npL : ∀ y ∈ hs, NeP ((gs.drop y.1).take y.2.length) := fun y hy x hx => np x (List.mem_of_mem_drop (List.mem_of_mem_take hx))
  have gpe : ∀ y ∈ hs, gp y.2 t2 = gp (bk gs y).2 (t1 + t2) := fun y hy => by
    have := gp_bw t1 t2 (npL y hy)
    rw [← (seg y hy).1] at this
    exact this
  have gue : ∀ y ∈ hs, gu y.2 = gu (bk gs y).2 := fun y hy => by
    have := gu_bw t1 (npL y hy)
    rw [← (seg y hy).1] at this
    exact this
  have gme : ∀ y ∈ hs, gM y.2 = gM (bk gs y).2 := fun y hy => by
    have := gM_bw t1 ((gs.drop y.1).take y.2.length)
    rw [← (seg y hy).1] at this
    exact this
  have stp : ∀ i l, (fl (gs.take (i + l))).length = (fl (gs.take i)).length + (fl ((gs.drop i).take l)).length := fun i l => by
    rw [List.take_add, fl_app, List.length_append]
  refine ⟨?_, fun y hy => ?_⟩
  · have ct1 : Chn ct_ (hs.map (bk gs)) := by
      refine Chn.map (fun x y h => ?_) c'.ct
      have h : y.1 = x.1 + x.2.length := h
      show (fl (gs.take y.1)).length = (fl (gs.take x.1)).length + (fl ((gs.drop x.1).take x.2.length)).length
      rw [h, stp]
    have up1 : Chn (lt_at (t1 + t2)) (hs.map (bk gs)) := by
      have := Chn.mem (P := fun y => y ∈ hs) (fun z hz => hz) c'.up
      refine Chn.map (fun x y h => ?_) this
      obtain ⟨h, hx, hy⟩ := h
      have h : gp x.2 t2 < gp y.2 t2 := h
      show gp (bk gs x).2 (t1 + t2) < gp (bk gs y).2 (t1 + t2)
      rw [← gpe x hx, ← gpe y hy]
      exact h
    have bdr : BdR (t1 + t2) gs := bdr_on (by rw [c.fl]; exact cw.up) p1 (by grind) b.ok
    have ok1 : ∀ x ∈ hs.map (bk gs), x.2 ≠ [] ∧ PosG x.2 ∧ HbT (t1 + t2) x.2 := fun x hx => by
      obtain ⟨y, hy, rfl⟩ := List.mem_map.mp hx
      obtain ⟨n1, p1, k1⟩ := b'.ok y hy
      have neL : (gs.drop y.1).take y.2.length ≠ [] := fun z => n1 (by rw [(seg y hy).1, z]; rfl)
      refine ⟨fl_ne (npL y hy) neL, fl_pos (npL y hy), hb_join (npL y hy) (fun x hx => (bdr x (List.mem_of_mem_drop (List.mem_of_mem_take hx))).2.2) ?_⟩
      rw [← (seg y hy).1]
      exact k1
    have ef := bk_flat (gs := gs) (t := t1) hs 0 c'.ct h0' (by rw [List.drop_zero]; exact c'.fl)
    rw [List.drop_zero] at ef
    rw [← hF]
    refine ct_same _ _ cf.ct ct1 (fun x r y s ex ey => ?_) (br_uniq _ _ bf ⟨ok1, up1⟩ (by rw [cf.fl]; exact (ef.trans c.fl).symm))
    rw [ex] at hdf
    have hx : x.1 = 0 := hdf
    rw [hx]
    cases hs with
    | nil => cases ey
    | cons z w =>
      have e1 := (List.cons.inj ey).1
      have e2 := h0' z w rfl
      rw [← e1]
      show 0 = (fl (gs.take z.1)).length
      rw [e2]
      rfl
  · obtain ⟨n1, _, _⟩ := b'.ok y hy
    have lp : 0 < y.2.length := List.length_pos_iff.mpr n1
    have le := (seg y hy).2
    obtain ⟨a, ea⟩ : ∃ a, gs[y.1]? = some a := ⟨gs[y.1], List.getElem?_eq_getElem (by omega)⟩
    obtain ⟨z, ez⟩ : ∃ z, gs[y.1 + y.2.length - 1]? = some z := ⟨gs[y.1 + y.2.length - 1], List.getElem?_eq_getElem (by omega)⟩
    have sa := st_at gs 0 c.ct h0 _ a ea
    have sz := st_at gs 0 c.ct h0 _ z ez
    refine ⟨a, z, ea, ez, lp, by rw [sa, Nat.zero_add]; rfl, ?_, gpe y hy, gue y hy, gme y hy⟩
    have e1 : gs.take (y.1 + y.2.length) = gs.take (y.1 + y.2.length - 1) ++ [z] := by
      have : y.1 + y.2.length = (y.1 + y.2.length - 1) + 1 := by omega
      rw [this, List.take_add_one]
      have : y.1 + y.2.length - 1 + 1 - 1 = y.1 + y.2.length - 1 := by omega
      rw [this, ez]
      rfl
    have e2 := stp y.1 y.2.length
    rw [e1, fl_app, List.length_append] at e2
    have e3 : (fl [z]).length = z.2.length := by simp
    rw [e3] at e2
    unfold lastI
    show (z.1 : Int) + z.2.length - 1 = ((fl (gs.take y.1)).length : Int) + ((fl ((gs.drop y.1).take y.2.length)).length : Int) - 1
    omega
end VS
set_option Elab.async false
set_option linter.all false
set_option maxRecDepth 100000
set_option maxHeartbeats 4000000
/-! K85: clumps gone on. Own work (printed by mk85b.py). -/
namespace VS
open PySem PySem.Spec PyProof.Rows
open L2 (V Hp Cx WX)
def Mo2 (t : Rat) : Prop := Sm 200 t ∧ 0 ≤ t
def F__law_moments : FS := fun ss K _ => ∃ (n : Int) (st : Bool) (W : List Bw), ss = [.l [.int n], .v (.lst st (W.map wD))] ∧ CWorld W ∧ ∀ (ms : List Rat) (n' : Int), 0 < ms.length ∧ ms.length ≤ 6 → (∀ m ∈ ms, Mo2 m) → K (.v (.lst true (ms.map frD))) [.l [.int n']]
theorem m__law_moments : MonoF F__law_moments := fun ss K K' E E' hk he ⟨n, st, W, h1, h2, h3⟩ => ⟨n, st, W, h1, h2, fun ms n' p q => hk _ _ (h3 ms n' p q)⟩
def sf__law_moments_r1 : SS := (seqS (ifS (bT (bin true (vE 2) (lstE nilA) (eqR true))) (seqS (setS 4 true (bin true (bin false (vE 2) (callI F__law_take 0 (hereA 0 (consA true (callV lenC (consA true (vE 2) nilA)) nilA))) ixR) (cE (.int 0)) ixR))
  (setS 3 true (bin true (vE 3) (lstE (consA true (vE 4) (consA true (bin true (bin true (vE 2) (negE (cE (.int 1))) ixR) (cE (.int 0)) ixR) (consA true (callP F__law_plus [] (consA true (bin true (bin true (vE 2) (negE (cE (.int 1))) ixR) (cE (.int 0)) ixR) (consA true (tupE (consA true (cE (.int 1)) (consA true (cE (.int 3)) nilA))) nilA))) (consA true (callP F__law_times [] (consA true (vE 4) (consA true (tupE (consA true (cE (.int 2)) (consA true (cE (.int 3)) nilA))) nilA))) nilA))))) addR))) nxS)
  (retS (vE 3)))
def sf__law_moments : SS := (seqS (setS 2 true (callP F_stuck_run [] (consA true (vE 1) nilA)))
  (seqS (setS 3 true (lstE (consA false (tupE (consA true (cE (.int 0)) (consA true (cE (.int 1)) nilA))) (consA true (callP F__law_fit [] (consA false (bin false (cE (.int 1)) (callI F__law_take 0 (hereA 0 (consA true (cE (.int 30)) nilA))) addR) (consA true (bin false (cE (.int 1)) (callI F__law_take 0 (hereA 0 (consA true (cE (.int 6)) nilA))) addR) nilA))) nilA))))
  sf__law_moments_r1))
theorem to__law_moments : ∀ ss K E, F__law_moments ss K E → defF [true, false] 5 sf__law_moments ss K E := fun ss K E h => by
  obtain ⟨n, st, W, rfl, cw, h⟩ := h
  have rt := run_times2 cw.all2 13 0 (sng 0 W) cw.gw.ci Rat.le_refl
  have rl := run_len 13 0 (sng 0 W) cw.gw.ci
  have e0 : (D.tup [.int 0, .int 1]) = frD ((0 : Int) : Rat) := rfl
  simp [sf__law_moments, cE, vE, bE, rE, fE, mE, bin, nilA, consA, bT, andT, orT, notT, tupE, lstE, allV, allM, okB, intR, addR, asL, asT, asD, eqR, eqD_nn, eqD_bb, eqD_ii, eqD_ss, eqD_tt, eqD_ll, eqD_bi, eqD_ib, eqD_nt, eqD_tn, eqD_it, eqD_ti, eqD_ni, eqD_in, eqDs_nn, eqDs_cc, eqDs_nc, eqDs_cn, cmpD, cmpDs, depD, depDs, isNon, isNR, chainE, tvE, andV, orV, notV, ifE, slEV, ixR, callV, lenC, isiC, tyN, pick, retEV, callP, argD, argDs, seqS, bkS, ctS, exprS, retS, retNS, ifS, evSl, setS, SK.loop, gN, gNil, gCons, gT, asgS, parS, defF, defK, raiseS, absC, divmodC, mmC, stL, itL, itT, itR1, itR2, itE, shL, itZ, itV, forS, evD, methL, appL, clrL, popL, insL, trL, extL, setixS, argS, argSs, callI, callN, hereA, nextA, negE, itS, wipeR, yesT, seqD, listC, tupC, numd, zipd, nxS, frSl, retSl, retSls, retOk, retOks, tryAsS, tryOnlyS, lookB, kinE, xfE, lookF, frzE, isTR, isTB, allC, blsD, gU, raiseIS, at0, at1, at2, at3, lrE, sortC, intC, intsD, slE, intO, cutD, eqXR, slX, addT, repT, inR, cmpO, heldR, appT, lrE, sortC, intC, intsD, slE, intO, cutD, eqXR, slX, addT, repT, compX, compDx, neYR, lrevE, sumC]
  refine ⟨st, W, rfl, cw.gw, ?_⟩
  have rr : retOks ((runG 13 0 (sng 0 W)).map rnD) = true := by
    generalize runG 13 0 (sng 0 W) = R
    induction R with
    | nil => rfl
    | cons x R ih =>
      rw [List.map_cons]
      show (retOk (rnD x) && retOks (R.map rnD)) = true
      rw [ih]
      rfl
  generalize runG 13 0 (sng 0 W) = R at *
  simp [cE, vE, bE, rE, fE, mE, bin, nilA, consA, bT, andT, orT, notT, tupE, lstE, allV, allM, okB, intR, addR, asL, asT, asD, eqR, eqD_nn, eqD_bb, eqD_ii, eqD_ss, eqD_tt, eqD_ll, eqD_bi, eqD_ib, eqD_nt, eqD_tn, eqD_it, eqD_ti, eqD_ni, eqD_in, eqDs_nn, eqDs_cc, eqDs_nc, eqDs_cn, cmpD, cmpDs, depD, depDs, isNon, isNR, chainE, tvE, andV, orV, notV, ifE, slEV, ixR, callV, lenC, isiC, tyN, pick, retEV, callP, argD, argDs, seqS, bkS, ctS, exprS, retS, retNS, ifS, evSl, setS, SK.loop, gN, gNil, gCons, gT, asgS, parS, defF, defK, raiseS, absC, divmodC, mmC, stL, itL, itT, itR1, itR2, itE, shL, itZ, itV, forS, evD, methL, appL, clrL, popL, insL, trL, extL, setixS, argS, argSs, callI, callN, hereA, nextA, negE, itS, wipeR, compE, compD, yesT, seqD, listC, tupC, numd, zipd, nxS, frSl, retSl, retSls, retOk, retOks, tryAsS, tryOnlyS, lookB, kinE, xfE, lookF, frzE, isTR, isTB, allC, blsD, gU, raiseIS, at0, at1, at2, at3, lrE, sortC, intC, intsD, slE, intO, cutD, eqXR, slX, addT, repT, inR, cmpO, heldR, appT, lrE, sortC, intC, intsD, slE, intO, cutD, eqXR, slX, addT, repT, compX, compDx, neYR, lrevE, sumC, rr, F__law_take, F__law_fit]
  refine ⟨by unfold Si; decide, fun a a0 a1 => ⟨by unfold Si; decide, fun b n1 b0 b1 => ⟨⟨by omega, by unfold Si; omega⟩, ?_⟩⟩⟩
  have mm : Mo2 ((1 + (a : Rat)) / (1 + (b : Rat))) := by
    refine ⟨?_, ?_⟩
    · have := Sm.div (n := 6) (m := 6) (a := 1 + a) (b := 1 + b) (by unfold Si; omega) (by unfold Si; omega) (by omega)
      rw [Rat.intCast_add, Rat.intCast_add] at this
      exact this.mono (by decide)
    · have q0 : (0 : Rat) ≤ (a : Rat) := by exact_mod_cast a0
      have q1 : (0 : Rat) ≤ (b : Rat) := by exact_mod_cast b0
      rw [Rat.div_def]
      exact Rat.mul_nonneg (by grind) (Rat.le_of_lt (Rat.inv_pos.mpr (by grind)))
  have m0 : Mo2 0 := ⟨⟨by show Si 200 (0 : Int); unfold Si; decide, by show Si 200 (1 : Int); unfold Si; decide⟩, Rat.le_refl⟩
  have e0 : (D.tup [.int 0, .int 1]) = frD (0 : Rat) := rfl
  generalize (1 + (a : Rat)) / (1 + (b : Rat)) = m at *
  rw [e0]
  obtain ⟨c1, _, c3⟩ := self_rn R
  cases hR : R with
  | nil =>
    simp [sf__law_moments_r1, cE, vE, bE, rE, fE, mE, bin, nilA, consA, bT, andT, orT, notT, tupE, lstE, allV, allM, okB, intR, addR, asL, asT, asD, eqR, eqD_nn, eqD_bb, eqD_ii, eqD_ss, eqD_tt, eqD_ll, eqD_bi, eqD_ib, eqD_nt, eqD_tn, eqD_it, eqD_ti, eqD_ni, eqD_in, eqDs_nn, eqDs_cc, eqDs_nc, eqDs_cn, cmpD, cmpDs, depD, depDs, isNon, isNR, chainE, tvE, andV, orV, notV, ifE, slEV, ixR, callV, lenC, isiC, tyN, pick, retEV, callP, argD, argDs, seqS, bkS, ctS, exprS, retS, retNS, ifS, evSl, setS, SK.loop, gN, gNil, gCons, gT, asgS, parS, defF, defK, raiseS, absC, divmodC, mmC, stL, itL, itT, itR1, itR2, itE, shL, itZ, itV, forS, evD, methL, appL, clrL, popL, insL, trL, extL, setixS, argS, argSs, callI, callN, hereA, nextA, negE, itS, wipeR, compE, compD, yesT, seqD, listC, tupC, numd, zipd, nxS, frSl, retSl, retSls, retOk, retOks, tryAsS, tryOnlyS, lookB, kinE, xfE, lookF, frzE, isTR, isTB, allC, blsD, gU, raiseIS, at0, at1, at2, at3, lrE, sortC, intC, intsD, slE, intO, cutD, eqXR, slX, addT, repT, inR, cmpO, heldR, appT, lrE, sortC, intC, intsD, slE, intO, cutD, eqXR, slX, addT, repT, compX, compDx, neYR, lrevE, sumC]
    exact h [0, m] n1 (by simp) fun x hx => by
      simp at hx
      rcases hx with rfl | rfl
      · exact m0
      · exact mm
  | cons x0 R0 =>
    rw [← hR]
    have hne : R ≠ [] := by rw [hR]; simp
    have ne : ¬ eqDs (R.map rnD) [] = true := by rw [hR]; simp [eqDs]
    have lpos : 0 < R.length := by rw [hR]; simp
    clear hR
    simp [sf__law_moments_r1, cE, vE, bE, rE, fE, mE, bin, nilA, consA, bT, andT, orT, notT, tupE, lstE, allV, allM, okB, intR, addR, asL, asT, asD, eqR, eqD_nn, eqD_bb, eqD_ii, eqD_ss, eqD_tt, eqD_ll, eqD_bi, eqD_ib, eqD_nt, eqD_tn, eqD_it, eqD_ti, eqD_ni, eqD_in, eqDs_nn, eqDs_cc, eqDs_nc, eqDs_cn, cmpD, cmpDs, depD, depDs, isNon, isNR, chainE, tvE, andV, orV, notV, ifE, slEV, ixR, callV, lenC, isiC, tyN, pick, retEV, callP, argD, argDs, seqS, bkS, ctS, exprS, retS, retNS, ifS, evSl, setS, SK.loop, gN, gNil, gCons, gT, asgS, parS, defF, defK, raiseS, absC, divmodC, mmC, stL, itL, itT, itR1, itR2, itE, shL, itZ, itV, forS, evD, methL, appL, clrL, popL, insL, trL, extL, setixS, argS, argSs, callI, callN, hereA, nextA, negE, itS, wipeR, compE, compD, yesT, seqD, listC, tupC, numd, zipd, nxS, frSl, retSl, retSls, retOk, retOks, tryAsS, tryOnlyS, lookB, kinE, xfE, lookF, frzE, isTR, isTB, allC, blsD, gU, raiseIS, at0, at1, at2, at3, lrE, sortC, intC, intsD, slE, intO, cutD, eqXR, slX, addT, repT, inR, cmpO, heldR, appT, lrE, sortC, intC, intsD, slE, intO, cutD, eqXR, slX, addT, repT, compX, compDx, neYR, lrevE, sumC, c1, ne, F__law_take]
    refine ⟨⟨lpos, by unfold Si; omega⟩, fun d n2 d0 d1 => ?_⟩
    obtain ⟨y, ey⟩ : ∃ y, R[d.toNat]? = some y := ⟨R[d.toNat]'(by omega), List.getElem?_eq_getElem (by omega)⟩
    have iy : L2.atI (R.map rnD) d = some (rnD y) := atI_of84 d0 (by rw [List.getElem?_map, ey]; rfl)
    obtain ⟨z, mz, iz⟩ : ∃ z ∈ R, L2.atI (R.map rnD) (-1) = some (rnD z) := by
      refine ⟨R.getLast hne, List.getLast_mem hne, ?_⟩
      have e : R.map rnD = R.dropLast.map rnD ++ [rnD (R.getLast hne)] := by
        have := List.dropLast_concat_getLast hne
        rw [← List.map_singleton, ← List.map_append, this]
      rw [e]
      unfold L2.atI L2.ixN
      rw [if_neg (by omega), if_pos (by simp; omega)]
      have e2 : (-1 + ((R.dropLast.map rnD ++ [rnD (R.getLast hne)]).length : Int)).toNat = (R.dropLast.map rnD).length := by rw [List.length_append]; simp; omega
      rw [e2]
      simp
    obtain ⟨sy, y0⟩ := rt y (List.mem_of_getElem? ey)
    obtain ⟨sz, z0⟩ := rt z mz
    have s1 := sy.mono (m := 4000) (by decide)
    have s2 := sz.mono (m := 4000) (by decide)
    have i1 : Si 4000 1 := by unfold Si; decide
    have i2 : Si 4000 2 := by unfold Si; decide
    have i3 : Si 4000 3 := by unfold Si; decide
    simp [cE, vE, bE, rE, fE, mE, bin, nilA, consA, bT, andT, orT, notT, tupE, lstE, allV, allM, okB, intR, addR, asL, asT, asD, eqR, eqD_nn, eqD_bb, eqD_ii, eqD_ss, eqD_tt, eqD_ll, eqD_bi, eqD_ib, eqD_nt, eqD_tn, eqD_it, eqD_ti, eqD_ni, eqD_in, eqDs_nn, eqDs_cc, eqDs_nc, eqDs_cn, cmpD, cmpDs, depD, depDs, isNon, isNR, chainE, tvE, andV, orV, notV, ifE, slEV, ixR, callV, lenC, isiC, tyN, pick, retEV, callP, argD, argDs, seqS, bkS, ctS, exprS, retS, retNS, ifS, evSl, setS, SK.loop, gN, gNil, gCons, gT, asgS, parS, defF, defK, raiseS, absC, divmodC, mmC, stL, itL, itT, itR1, itR2, itE, shL, itZ, itV, forS, evD, methL, appL, clrL, popL, insL, trL, extL, setixS, argS, argSs, callI, callN, hereA, nextA, negE, itS, wipeR, compE, compD, yesT, seqD, listC, tupC, numd, zipd, nxS, frSl, retSl, retSls, retOk, retOks, tryAsS, tryOnlyS, lookB, kinE, xfE, lookF, frzE, isTR, isTB, allC, blsD, gU, raiseIS, at0, at1, at2, at3, lrE, sortC, intC, intsD, slE, intO, cutD, eqXR, slX, addT, repT, inR, cmpO, heldR, appT, lrE, sortC, intC, intsD, slE, intO, cutD, eqXR, slX, addT, repT, compX, compDx, neYR, lrevE, sumC, iy, iz, rnD, F__law_plus, F__law_times, F_plus, F_times, F_two, Rat.den_nz, nd]
    have q3 : Sm 5 (1 / 3 : Rat) := (Sm.div (n := 5) (m := 5) (a := 1) (b := 3) (by unfold Si; decide) (by unfold Si; decide) (by decide)).mono (by decide)
    have q23 : Sm 5 (2 / 3 : Rat) := (Sm.div (n := 5) (m := 5) (a := 2) (b := 3) (by unfold Si; decide) (by unfold Si; decide) (by decide)).mono (by decide)
    refine ⟨by (repeat' with_reducible apply And.intro) <;> try first | assumption | exact Sm.n (by assumption) | exact Sm.d (by assumption) | exact Si.mono (by assumption) (by decide) | exact dpos _ | exact Rat.nz _ | exact Rat.den_nz _, by (repeat' with_reducible apply And.intro) <;> try first | assumption | exact Sm.n (by assumption) | exact Sm.d (by assumption) | exact Si.mono (by assumption) (by decide) | exact dpos _ | exact Rat.nz _ | exact Rat.den_nz _, ?_⟩
    refine h [0, m, y.1, z.1, z.1 + 1 / 3, y.1 * (2 / 3)] n2 (by simp) fun x hx => ?_
    simp at hx
    rcases hx with rfl | rfl | rfl | rfl | rfl | rfl
    · exact m0
    · exact mm
    · exact ⟨sy.mono (by decide), y0⟩
    · exact ⟨sz.mono (by decide), z0⟩
    · exact ⟨(sz.add q3).mono (by decide), by grind⟩
    · exact ⟨(sy.mul q23).mono (by decide), Rat.mul_nonneg y0 (by grind)⟩
def F__law_on : FS := fun ss K _ => ∃ (st : Bool) (W : List Bw) (t1 t2 : Rat), ss = [.v (.lst st (W.map wD)), .v (frD t1), .v (frD t2)] ∧ (CWorld W ∧ Mo2 t1 ∧ Mo2 t2) ∧ K (.v (.bl true)) []
theorem m__law_on : MonoF F__law_on := fun ss K K' E E' hk he ⟨st, W, t1, t2, h1, h2, h3⟩ => ⟨st, W, t1, t2, h1, h2, hk _ _ h3⟩
def F__law_about : FS := fun ss K _ => ∃ q : Rat, ss = [.v (frD q)] ∧ K (.v (frD (-q))) []
theorem m__law_about : MonoF F__law_about := fun ss K K' E E' hk he ⟨q, h1, h3⟩ => ⟨q, h1, hk _ _ h3⟩
def F__law_mirror : FS := fun ss K _ => ∃ (st : Bool) (W : List Bw) (t : Rat), ss = [.v (.lst st (W.map wD)), .v (frD t)] ∧ (CWorld W ∧ Mo2 t) ∧ K (.v (.bl true)) []
theorem m__law_mirror : MonoF F__law_mirror := fun ss K K' E E' hk he ⟨st, W, t, h1, h2, h3⟩ => ⟨st, W, t, h1, h2, hk _ _ h3⟩
def F__law_seen : FS := fun ss K _ => ∃ (st : Bool) (W : List Bw) (c t : Rat), ss = [.v (.lst st (W.map wD)), .v (frD c), .v (frD t)] ∧ (CWorld W ∧ Fq 72 2000 c ∧ Mo2 t) ∧ K (.v (.bl true)) []
theorem m__law_seen : MonoF F__law_seen := fun ss K K' E E' hk he ⟨st, W, c, t, h1, h2, h3⟩ => ⟨st, W, c, t, h1, h2, hk _ _ h3⟩
def sf__law_on_r1 : SS := (retS (bin true (vE 5) (callP F_clumps_at [] (consA true (vE 0) (consA true (callP F__law_plus [] (consA true (vE 1) (consA true (vE 2) nilA))) nilA))) (eqR false)))
def sf__law_on_r2 : SS := (seqS (setS 5 true (compE [6] (itS (vE 4)) (gN 6 true) yesT (tupE (consA true (bin true (bin true (vE 3) (bin true (vE 6) (cE (.int 0)) ixR) ixR) (cE (.int 0)) ixR) (consA true (bin true (bin true (vE 3) (bin true (vE 6) (cE (.int 1)) ixR) ixR) (cE (.int 1)) ixR) (consA true (bin true (vE 6) (cE (.int 2)) ixR) (consA true (bin true (vE 6) (cE (.int 3)) ixR) (consA true (bin true (vE 6) (cE (.int 4)) ixR) nilA))))))))
  sf__law_on_r1)
def sf__law_on : SS := (seqS (setS 3 true (callP F_clumps_at [] (consA true (vE 0) (consA true (vE 1) nilA))))
  (seqS (setS 4 true (callP F_clumps_at [] (consA true (compE [6] (itS (vE 3)) (gN 6 true) yesT (slX (vE 6) (some (cE (.int 2))) none)) (consA true (vE 2) nilA))))
  sf__law_on_r2))
def sf__law_about : SS := (retS (tupE (consA true (bin true (cE (.int 0)) (bin true (vE 0) (cE (.int 0)) ixR) (intR (fun _ _ => True) fun i j => .int (i - j))) (consA true (bin true (vE 0) (cE (.int 1)) ixR) nilA))))
def sf__law_mirror_r1 : SS := (retS (bin true (callP F_clumps_at [] (consA true (callP F_mirrored [] (consA true (vE 0) nilA)) (consA true (vE 1) nilA))) (vE 3) (eqR false)))
def sf__law_mirror : SS := (seqS (setS 2 true (bin true (callV lenC (consA true (vE 0) nilA)) (cE (.int 1)) (intR (fun _ _ => True) fun i j => .int (i - j))))
  (seqS (setS 3 true (compE [4] (itV (consA true (callP F_clumps_at [] (consA true (vE 0) (consA true (vE 1) nilA))) nilA)) (gN 4 true) yesT (tupE (consA true (bin true (vE 2) (bin true (vE 4) (cE (.int 1)) ixR) (intR (fun _ _ => True) fun i j => .int (i - j))) (consA true (bin true (vE 2) (bin true (vE 4) (cE (.int 0)) ixR) (intR (fun _ _ => True) fun i j => .int (i - j))) (consA true (callP F__law_about [] (consA true (bin true (vE 4) (cE (.int 2)) ixR) nilA)) (consA true (callP F__law_about [] (consA true (bin true (vE 4) (cE (.int 3)) ixR) nilA)) (consA true (bin true (vE 4) (cE (.int 4)) ixR) nilA))))))))
  sf__law_mirror_r1))
def sf__law_seen_r1 : SS := (retS (andV (bin true (callP F_clumps_at [] (consA true (vE 3) (consA true (vE 2) nilA))) (vE 5) (eqR false)) (bin true (callP F_stuck_run [] (consA true (vE 3) nilA)) (vE 6) (eqR false))))
def sf__law_seen_r2 : SS := (seqS (setS 6 true (compE [8] (itS (callP F_stuck_run [] (consA true (vE 0) nilA))) (gN 8 true) yesT (tupE (consA true (bin true (vE 8) (cE (.int 0)) ixR) (consA true (callP F__law_minus [] (consA true (bin true (vE 8) (cE (.int 1)) ixR) (consA true (callP F__law_times [] (consA true (vE 1) (consA true (bin true (vE 8) (cE (.int 0)) ixR) nilA))) nilA))) (consA true (bin true (vE 8) (cE (.int 2)) ixR) (consA true (bin true (vE 8) (cE (.int 3)) ixR) nilA)))))))
  sf__law_seen_r1)
def sf__law_seen_r3 : SS := (seqS (setS 4 true (callP F__law_times [] (consA true (vE 1) (consA true (vE 2) nilA))))
  (seqS (setS 5 true (compE [8] (itS (callP F_clumps_at [] (consA true (vE 0) (consA true (vE 2) nilA)))) (gN 8 true) yesT (tupE (consA true (bin true (vE 8) (cE (.int 0)) ixR) (consA true (bin true (vE 8) (cE (.int 1)) ixR) (consA true (callP F__law_minus [] (consA true (bin true (vE 8) (cE (.int 2)) ixR) (consA true (vE 4) nilA))) (consA true (callP F__law_minus [] (consA true (bin true (vE 8) (cE (.int 3)) ixR) (consA true (vE 1) nilA))) (consA true (bin true (vE 8) (cE (.int 4)) ixR) nilA))))))))
  sf__law_seen_r2))
def sf__law_seen : SS := (seqS (setS 3 true (compE [7] (itS (vE 0)) (gN 7 true) yesT (callP F_seen_from [] (consA true (vE 7) (consA true (vE 1) nilA)))))
  sf__law_seen_r3)
def sf_law_r1 : SS := (retS (cE (.bl true)))
def sf_law : SS := (seqS (forS (itR1 (consA true (callV (mmC true) (consA true (cE (.int 1)) (consA true (callV (mmC false) (consA true (callV lenC (consA true (vE 0) nilA)) (consA true (cE (.int 2)) nilA))) nilA))) nilA)) (gN 1 true) (seqS (setS 2 false (callP F__law_box [] (consA true (vE 0) (consA true (vE 1) nilA))))
  (seqS (setS 3 true (callI F__law_world 2 (hereA 2 nilA)))
  (seqS (setS 4 true (callI F__law_moments 2 (hereA 2 (consA true (vE 3) nilA))))
  (seqS (setS 5 true (bin false (vE 4) (callI F__law_take 2 (hereA 2 (consA true (callV lenC (consA true (vE 4) nilA)) nilA))) ixR))
  (seqS (setS 6 true (bin false (vE 4) (callI F__law_take 2 (hereA 2 (consA true (callV lenC (consA true (vE 4) nilA)) nilA))) ixR))
  (seqS (ifS (orT (notT (bT (callP F__law_on [] (consA true (vE 3) (consA true (vE 5) (consA true (vE 6) nilA)))))) (notT (bT (callP F__law_mirror [] (consA true (vE 3) (consA true (vE 5) nilA)))))) (retS (cE (.bl false))) nxS)
  (ifS (notT (bT (callP F__law_seen [] (consA false (vE 3) (consA true (callI F__law_small 2 (hereA 2 nilA)) (consA true (vE 6) nilA)))))) (retS (cE (.bl false))) nxS))))))))
  sf_law_r1)
theorem comp_mem {α : Type} {own : List Nat} {g : GS} {t : BS} {f : ES} {ρ : Rho} (u v : α → D) : ∀ (xs : List α) (acc : List D) (K : List D → Prop), (∀ a ∈ xs, ∀ (acc ds : List D) (K : List D → Prop), compD own g t f ρ ds (acc ++ [v a]) K → compD own g t f ρ (u a :: ds) acc K) → K (acc ++ xs.map v) → compD own g t f ρ (xs.map u) acc K
  | [], acc, K, _, k => by simpa [compD] using k
  | d :: ds, acc, K, step, k => step d List.mem_cons_self acc _ K (comp_mem u v ds (acc ++ [v d]) K (fun a ha => step a (List.mem_cons_of_mem _ ha)) (by simpa using k))
theorem to__law_about : ∀ ss K E, F__law_about ss K E → defF [false] 1 sf__law_about ss K E := fun ss K E h => by
  obtain ⟨q, rfl, h⟩ := h
  have e : frD (-q) = .tup [.int (-q.num), .int (q.den : Nat)] := rfl
  rw [e] at h
  simp [sf__law_about, cE, vE, bE, rE, fE, mE, bin, nilA, consA, bT, andT, orT, notT, tupE, lstE, allV, allM, okB, intR, addR, asL, asT, asD, eqR, eqD_nn, eqD_bb, eqD_ii, eqD_ss, eqD_tt, eqD_ll, eqD_bi, eqD_ib, eqD_nt, eqD_tn, eqD_it, eqD_ti, eqD_ni, eqD_in, eqDs_nn, eqDs_cc, eqDs_nc, eqDs_cn, cmpD, cmpDs, depD, depDs, isNon, isNR, chainE, tvE, andV, orV, notV, ifE, slEV, ixR, callV, lenC, isiC, tyN, pick, retEV, callP, argD, argDs, seqS, bkS, ctS, exprS, retS, retNS, ifS, evSl, setS, SK.loop, gN, gNil, gCons, gT, asgS, parS, defF, defK, raiseS, absC, divmodC, mmC, stL, itL, itT, itR1, itR2, itE, shL, itZ, itV, forS, evD, methL, appL, clrL, popL, insL, trL, extL, setixS, argS, argSs, callI, callN, hereA, nextA, negE, itS, wipeR, compE, compD, yesT, seqD, listC, tupC, numd, zipd, nxS, frSl, retSl, retSls, retOk, retOks, tryAsS, tryOnlyS, lookB, kinE, xfE, lookF, frzE, isTR, isTB, allC, blsD, gU, raiseIS, at0, at1, at2, at3, lrE, sortC, intC, intsD, slE, intO, cutD, eqXR, slX, addT, repT, inR, cmpO, heldR, appT, lrE, sortC, intC, intsD, slE, intO, cutD, eqXR, slX, addT, repT, compX, compDx, neYR, lrevE, sumC]
  exact h
theorem to__law_on : ∀ ss K E, F__law_on ss K E → defF [false, false, false] 7 sf__law_on ss K E := fun ss K E h => by
  obtain ⟨st, W, t1, t2, rfl, ⟨cw, m1, m2⟩, h⟩ := h
  have bc := back_cl cw m1.2 m2.2 m1.1
  have gw := bw_world cw m1.2 m1.1
  have ok := clAt_ok cw.gw m1.2
  have ok' := clAt_ok gw m2.2
  have p12 : 0 ≤ t1 + t2 := by have := m1.2; have := m2.2; grind
  have okf := clAt_ok cw.gw p12
  have s12 := m1.1.add m2.1
  have t14 := m1.1.mono (m := 4000) (by decide)
  have t24 := m2.1.mono (m := 4000) (by decide)
  simp [sf__law_on, cE, vE, bE, rE, fE, mE, bin, nilA, consA, bT, andT, orT, notT, tupE, lstE, allV, allM, okB, intR, addR, asL, asT, asD, eqR, eqD_nn, eqD_bb, eqD_ii, eqD_ss, eqD_tt, eqD_ll, eqD_bi, eqD_ib, eqD_nt, eqD_tn, eqD_it, eqD_ti, eqD_ni, eqD_in, eqDs_nn, eqDs_cc, eqDs_nc, eqDs_cn, cmpD, cmpDs, depD, depDs, isNon, isNR, chainE, tvE, andV, orV, notV, ifE, slEV, ixR, callV, lenC, isiC, tyN, pick, retEV, callP, argD, argDs, seqS, bkS, ctS, exprS, retS, retNS, ifS, evSl, setS, SK.loop, gN, gNil, gCons, gT, asgS, parS, defF, defK, raiseS, absC, divmodC, mmC, stL, itL, itT, itR1, itR2, itE, shL, itZ, itV, forS, evD, methL, appL, clrL, popL, insL, trL, extL, setixS, argS, argSs, callI, callN, hereA, nextA, negE, itS, wipeR, yesT, seqD, listC, tupC, numd, zipd, nxS, frSl, retSl, retSls, retOk, retOks, tryAsS, tryOnlyS, lookB, kinE, xfE, lookF, frzE, isTR, isTB, allC, blsD, gU, raiseIS, at0, at1, at2, at3, lrE, sortC, intC, intsD, slE, intO, cutD, eqXR, slX, addT, repT, inR, cmpO, heldR, appT, lrE, sortC, intC, intsD, slE, intO, cutD, eqXR, slX, addT, repT, compX, compDx, neYR, lrevE, sumC]
  refine clumps_at_f cw.gw ⟨m1.1.mono (by decide), m1.2⟩ ?_
  have l1 := row_len ok.ok
  have l2 := row_len ok'.ok
  have cl := bc.cl
  have el := bc.el
  have cF : ∀ {K : EV → List Sl → Prop} {E : Exc → List Sl → Prop}, K (.m (.l ((clAt W (t1 + t2)).map (clD (t1 + t2))))) [] → F_clumps_at [.v (.lst st (W.map wD)), .v (frD (t1 + t2))] K E := fun {K E} k => clumps_at_f cw.gw ⟨s12.mono (by decide), p12⟩ k
  rw [cl] at cF
  have gc : ∀ {st : Bool} {K : EV → List Sl → Prop} {E : Exc → List Sl → Prop}, K (.m (.l ((clAt ((clAt W t1).map (bwT t1)) t2).map (clD t2)))) [] → F_clumps_at [.v (.lst st (((clAt W t1).map (bwT t1)).map wD)), .v (frD t2)] K E := fun {st K E} k => clumps_at_f gw ⟨m2.1.mono (by decide), m2.2⟩ k
  generalize clAt W t1 = gs at *
  generalize clAt (gs.map (bwT t1)) t2 = hs at *
  simp [cE, vE, bE, rE, fE, mE, bin, nilA, consA, bT, andT, orT, notT, tupE, lstE, allV, allM, okB, intR, addR, asL, asT, asD, eqR, eqD_nn, eqD_bb, eqD_ii, eqD_ss, eqD_tt, eqD_ll, eqD_bi, eqD_ib, eqD_nt, eqD_tn, eqD_it, eqD_ti, eqD_ni, eqD_in, eqDs_nn, eqDs_cc, eqDs_nc, eqDs_cn, cmpD, cmpDs, depD, depDs, isNon, isNR, chainE, tvE, andV, orV, notV, ifE, slEV, ixR, callV, lenC, isiC, tyN, pick, retEV, callP, argD, argDs, seqS, bkS, ctS, exprS, retS, retNS, ifS, evSl, setS, SK.loop, gN, gNil, gCons, gT, asgS, parS, defF, defK, raiseS, absC, divmodC, mmC, stL, itL, itT, itR1, itR2, itE, shL, itZ, itV, forS, evD, methL, appL, clrL, popL, insL, trL, extL, setixS, argS, argSs, callI, callN, hereA, nextA, negE, itS, wipeR, yesT, seqD, listC, tupC, numd, zipd, nxS, frSl, retSl, retSls, retOk, retOks, tryAsS, tryOnlyS, lookB, kinE, xfE, lookF, frzE, isTR, isTB, allC, blsD, gU, raiseIS, at0, at1, at2, at3, lrE, sortC, intC, intsD, slE, intO, cutD, eqXR, slX, addT, repT, inR, cmpO, heldR, appT, lrE, sortC, intC, intsD, slE, intO, cutD, eqXR, slX, addT, repT, compX, compDx, neYR, lrevE, sumC, compE, retOks_cl]
  refine ⟨by omega, comp_all (clD t1) (fun x => wD (bwT t1 x)) (fun x acc ds K ih => ?_) gs [] _ ?_⟩
  · simp [cE, vE, bE, rE, fE, mE, bin, nilA, consA, bT, andT, orT, notT, tupE, lstE, allV, allM, okB, intR, addR, asL, asT, asD, eqR, eqD_nn, eqD_bb, eqD_ii, eqD_ss, eqD_tt, eqD_ll, eqD_bi, eqD_ib, eqD_nt, eqD_tn, eqD_it, eqD_ti, eqD_ni, eqD_in, eqDs_nn, eqDs_cc, eqDs_nc, eqDs_cn, cmpD, cmpDs, depD, depDs, isNon, isNR, chainE, tvE, andV, orV, notV, ifE, slEV, ixR, callV, lenC, isiC, tyN, pick, retEV, callP, argD, argDs, seqS, bkS, ctS, exprS, retS, retNS, ifS, evSl, setS, SK.loop, gN, gNil, gCons, gT, asgS, parS, defF, defK, raiseS, absC, divmodC, mmC, stL, itL, itT, itR1, itR2, itE, shL, itZ, itV, forS, evD, methL, appL, clrL, popL, insL, trL, extL, setixS, argS, argSs, callI, callN, hereA, nextA, negE, itS, wipeR, compE, compD, yesT, seqD, listC, tupC, numd, zipd, nxS, frSl, retSl, retSls, retOk, retOks, tryAsS, tryOnlyS, lookB, kinE, xfE, lookF, frzE, isTR, isTB, allC, blsD, gU, raiseIS, at0, at1, at2, at3, lrE, sortC, intC, intsD, slE, intO, cutD, eqXR, slX, addT, repT, inR, cmpO, heldR, appT, lrE, sortC, intC, intsD, slE, intO, cutD, eqXR, slX, addT, repT, compX, compDx, neYR, lrevE, sumC, clD, wD, bwT] at ih ⊢
    exact ih
  rw [List.nil_append]
  have e : ((gs.map (bwT t1)).map wD) = gs.map fun x => wD (bwT t1 x) := by rw [List.map_map]; rfl
  rw [← e]
  refine gc ?_
  simp [cE, vE, bE, rE, fE, mE, bin, nilA, consA, bT, andT, orT, notT, tupE, lstE, allV, allM, okB, intR, addR, asL, asT, asD, eqR, eqD_nn, eqD_bb, eqD_ii, eqD_ss, eqD_tt, eqD_ll, eqD_bi, eqD_ib, eqD_nt, eqD_tn, eqD_it, eqD_ti, eqD_ni, eqD_in, eqDs_nn, eqDs_cc, eqDs_nc, eqDs_cn, cmpD, cmpDs, depD, depDs, isNon, isNR, chainE, tvE, andV, orV, notV, ifE, slEV, ixR, callV, lenC, isiC, tyN, pick, retEV, callP, argD, argDs, seqS, bkS, ctS, exprS, retS, retNS, ifS, evSl, setS, SK.loop, gN, gNil, gCons, gT, asgS, parS, defF, defK, raiseS, absC, divmodC, mmC, stL, itL, itT, itR1, itR2, itE, shL, itZ, itV, forS, evD, methL, appL, clrL, popL, insL, trL, extL, setixS, argS, argSs, callI, callN, hereA, nextA, negE, itS, wipeR, yesT, seqD, listC, tupC, numd, zipd, nxS, frSl, retSl, retSls, retOk, retOks, tryAsS, tryOnlyS, lookB, kinE, xfE, lookF, frzE, isTR, isTB, allC, blsD, gU, raiseIS, at0, at1, at2, at3, lrE, sortC, intC, intsD, slE, intO, cutD, eqXR, slX, addT, repT, inR, cmpO, heldR, appT, lrE, sortC, intC, intsD, slE, intO, cutD, eqXR, slX, addT, repT, compX, compDx, neYR, lrevE, sumC, retOks_cl]
  simp [sf__law_on_r2, cE, vE, bE, rE, fE, mE, bin, nilA, consA, bT, andT, orT, notT, tupE, lstE, allV, allM, okB, intR, addR, asL, asT, asD, eqR, eqD_nn, eqD_bb, eqD_ii, eqD_ss, eqD_tt, eqD_ll, eqD_bi, eqD_ib, eqD_nt, eqD_tn, eqD_it, eqD_ti, eqD_ni, eqD_in, eqDs_nn, eqDs_cc, eqDs_nc, eqDs_cn, cmpD, cmpDs, depD, depDs, isNon, isNR, chainE, tvE, andV, orV, notV, ifE, slEV, ixR, callV, lenC, isiC, tyN, pick, retEV, callP, argD, argDs, seqS, bkS, ctS, exprS, retS, retNS, ifS, evSl, setS, SK.loop, gN, gNil, gCons, gT, asgS, parS, defF, defK, raiseS, absC, divmodC, mmC, stL, itL, itT, itR1, itR2, itE, shL, itZ, itV, forS, evD, methL, appL, clrL, popL, insL, trL, extL, setixS, argS, argSs, callI, callN, hereA, nextA, negE, itS, wipeR, yesT, seqD, listC, tupC, numd, zipd, nxS, frSl, retSl, retSls, retOk, retOks, tryAsS, tryOnlyS, lookB, kinE, xfE, lookF, frzE, isTR, isTB, allC, blsD, gU, raiseIS, at0, at1, at2, at3, lrE, sortC, intC, intsD, slE, intO, cutD, eqXR, slX, addT, repT, inR, cmpO, heldR, appT, lrE, sortC, intC, intsD, slE, intO, cutD, eqXR, slX, addT, repT, compX, compDx, neYR, lrevE, sumC, compE]
  refine ⟨by omega, comp_mem (clD t2) (fun y => clD (t1 + t2) (bk gs y)) hs [] _ (fun y hy acc ds K ih => ?_) ?_⟩
  · obtain ⟨a, z, ea, ez, lp, a1, a2, a3, a4, a5⟩ := el y hy
    have i1 : L2.atI (gs.map (clD t1)) (y.1 : Int) = some (clD t1 a) := atI_nat84 (by rw [List.getElem?_map, ea]; rfl)
    have i2 : L2.atI (gs.map (clD t1)) (lastI y) = some (clD t1 z) := by
      have e3 : lastI y = ((y.1 + y.2.length - 1 : Nat) : Int) := by unfold lastI; omega
      rw [e3]
      exact atI_nat84 (by rw [List.getElem?_map, ez]; rfl)
    simp [cE, vE, bE, rE, fE, mE, bin, nilA, consA, bT, andT, orT, notT, tupE, lstE, allV, allM, okB, intR, addR, asL, asT, asD, eqR, eqD_nn, eqD_bb, eqD_ii, eqD_ss, eqD_tt, eqD_ll, eqD_bi, eqD_ib, eqD_nt, eqD_tn, eqD_it, eqD_ti, eqD_ni, eqD_in, eqDs_nn, eqDs_cc, eqDs_nc, eqDs_cn, cmpD, cmpDs, depD, depDs, isNon, isNR, chainE, tvE, andV, orV, notV, ifE, slEV, ixR, callV, lenC, isiC, tyN, pick, retEV, callP, argD, argDs, seqS, bkS, ctS, exprS, retS, retNS, ifS, evSl, setS, SK.loop, gN, gNil, gCons, gT, asgS, parS, defF, defK, raiseS, absC, divmodC, mmC, stL, itL, itT, itR1, itR2, itE, shL, itZ, itV, forS, evD, methL, appL, clrL, popL, insL, trL, extL, setixS, argS, argSs, callI, callN, hereA, nextA, negE, itS, wipeR, compE, compD, yesT, seqD, listC, tupC, numd, zipd, nxS, frSl, retSl, retSls, retOk, retOks, tryAsS, tryOnlyS, lookB, kinE, xfE, lookF, frzE, isTR, isTB, allC, blsD, gU, raiseIS, at0, at1, at2, at3, lrE, sortC, intC, intsD, slE, intO, cutD, eqXR, slX, addT, repT, inR, cmpO, heldR, appT, lrE, sortC, intC, intsD, slE, intO, cutD, eqXR, slX, addT, repT, compX, compDx, neYR, lrevE, sumC, clD, at2, at3, at4', i1, i2] at ih ⊢
    rw [a1, a2, a3, a4, a5]
    exact ih
  rw [List.nil_append]
  have e2 : (hs.map fun y => clD (t1 + t2) (bk gs y)) = (hs.map (bk gs)).map (clD (t1 + t2)) := by rw [List.map_map]; rfl
  rw [e2]
  obtain ⟨c1, c2, c3⟩ := self_cl (t := t1 + t2) (hs.map (bk gs))
  generalize hs.map (bk gs) = F at *
  simp [sf__law_on_r1, cE, vE, bE, rE, fE, mE, bin, nilA, consA, bT, andT, orT, notT, tupE, lstE, allV, allM, okB, intR, addR, asL, asT, asD, eqR, eqD_nn, eqD_bb, eqD_ii, eqD_ss, eqD_tt, eqD_ll, eqD_bi, eqD_ib, eqD_nt, eqD_tn, eqD_it, eqD_ti, eqD_ni, eqD_in, eqDs_nn, eqDs_cc, eqDs_nc, eqDs_cn, cmpD, cmpDs, depD, depDs, isNon, isNR, chainE, tvE, andV, orV, notV, ifE, slEV, ixR, callV, lenC, isiC, tyN, pick, retEV, callP, argD, argDs, seqS, bkS, ctS, exprS, retS, retNS, ifS, evSl, setS, SK.loop, gN, gNil, gCons, gT, asgS, parS, defF, defK, raiseS, absC, divmodC, mmC, stL, itL, itT, itR1, itR2, itE, shL, itZ, itV, forS, evD, methL, appL, clrL, popL, insL, trL, extL, setixS, argS, argSs, callI, callN, hereA, nextA, negE, itS, wipeR, yesT, seqD, listC, tupC, numd, zipd, nxS, frSl, retSl, retSls, retOk, retOks, tryAsS, tryOnlyS, lookB, kinE, xfE, lookF, frzE, isTR, isTB, allC, blsD, gU, raiseIS, at0, at1, at2, at3, lrE, sortC, intC, intsD, slE, intO, cutD, eqXR, slX, addT, repT, inR, cmpO, heldR, appT, lrE, sortC, intC, intsD, slE, intO, cutD, eqXR, slX, addT, repT, compX, compDx, neYR, lrevE, sumC, F__law_plus, F_plus, F_two, Rat.den_nz, nd]
  refine ⟨by (repeat' with_reducible apply And.intro) <;> try first | assumption | exact Sm.n (by assumption) | exact Sm.d (by assumption) | exact Si.mono (by assumption) (by decide) | exact dpos _ | exact Rat.nz _ | exact Rat.den_nz _, cF ?_⟩
  have ro := retOks_cl (t := t1 + t2) F
  simp [cE, vE, bE, rE, fE, mE, bin, nilA, consA, bT, andT, orT, notT, tupE, lstE, allV, allM, okB, intR, addR, asL, asT, asD, eqR, eqD_nn, eqD_bb, eqD_ii, eqD_ss, eqD_tt, eqD_ll, eqD_bi, eqD_ib, eqD_nt, eqD_tn, eqD_it, eqD_ti, eqD_ni, eqD_in, eqDs_nn, eqDs_cc, eqDs_nc, eqDs_cn, cmpD, cmpDs, depD, depDs, isNon, isNR, chainE, tvE, andV, orV, notV, ifE, slEV, ixR, callV, lenC, isiC, tyN, pick, retEV, callP, argD, argDs, seqS, bkS, ctS, exprS, retS, retNS, ifS, evSl, setS, SK.loop, gN, gNil, gCons, gT, asgS, parS, defF, defK, raiseS, absC, divmodC, mmC, stL, itL, itT, itR1, itR2, itE, shL, itZ, itV, forS, evD, methL, appL, clrL, popL, insL, trL, extL, setixS, argS, argSs, callI, callN, hereA, nextA, negE, itS, wipeR, yesT, seqD, listC, tupC, numd, zipd, nxS, frSl, retSl, retSls, retOk, retOks, tryAsS, tryOnlyS, lookB, kinE, xfE, lookF, frzE, isTR, isTB, allC, blsD, gU, raiseIS, at0, at1, at2, at3, lrE, sortC, intC, intsD, slE, intO, cutD, eqXR, slX, addT, repT, inR, cmpO, heldR, appT, lrE, sortC, intC, intsD, slE, intO, cutD, eqXR, slX, addT, repT, compX, compDx, neYR, lrevE, sumC, c1, c2, ro]
  exact ⟨by omega, h⟩
theorem to__law_mirror : ∀ ss K E, F__law_mirror ss K E → defF [false, false] 5 sf__law_mirror ss K E := fun ss K E h => by
  obtain ⟨st, W, t, rfl, ⟨cw, mo⟩, h⟩ := h
  have ok := clAt_ok cw.gw mo.2
  have okm := clAt_ok cw.mir mo.2
  have hd := clAt_hd cw.gw t
  have lr := row_len ok.ok
  have mc := mir_cl cw mo.2
  have cl := cw.le
  have bd : ∀ z ∈ clAt W t, z.1 + z.2.length ≤ W.length := fun z hz => by
    have := (seg_go (clAt W t) 0 ok.ct (fun y r e => by rw [e] at hd; exact hd) z hz).2.2
    rw [ok.fl] at this
    omega
  have c1 : ∀ {K : EV → List Sl → Prop} {E : Exc → List Sl → Prop}, K (.m (.l ((clAt W t).map (clD t)))) [] → F_clumps_at [.v (.lst st (W.map wD)), .v (frD t)] K E := fun {K E} k => clumps_at_f cw.gw ⟨mo.1.mono (by decide), mo.2⟩ k
  have c2 : ∀ {st : Bool} {K : EV → List Sl → Prop} {E : Exc → List Sl → Prop}, K (.m (.l ((clAt (mirW W) t).map (clD t)))) [] → F_clumps_at [.v (.lst st ((mirW W).map wD)), .v (frD t)] K E := fun {st K E} k => clumps_at_f cw.mir ⟨mo.1.mono (by decide), mo.2⟩ k
  rw [mc] at c2
  generalize clAt W t = gs at *
  simp [sf__law_mirror, cE, vE, bE, rE, fE, mE, bin, nilA, consA, bT, andT, orT, notT, tupE, lstE, allV, allM, okB, intR, addR, asL, asT, asD, eqR, eqD_nn, eqD_bb, eqD_ii, eqD_ss, eqD_tt, eqD_ll, eqD_bi, eqD_ib, eqD_nt, eqD_tn, eqD_it, eqD_ti, eqD_ni, eqD_in, eqDs_nn, eqDs_cc, eqDs_nc, eqDs_cn, cmpD, cmpDs, depD, depDs, isNon, isNR, chainE, tvE, andV, orV, notV, ifE, slEV, ixR, callV, lenC, isiC, tyN, pick, retEV, callP, argD, argDs, seqS, bkS, ctS, exprS, retS, retNS, ifS, evSl, setS, SK.loop, gN, gNil, gCons, gT, asgS, parS, defF, defK, raiseS, absC, divmodC, mmC, stL, itL, itT, itR1, itR2, itE, shL, itZ, itV, forS, evD, methL, appL, clrL, popL, insL, trL, extL, setixS, argS, argSs, callI, callN, hereA, nextA, negE, itS, wipeR, yesT, seqD, listC, tupC, numd, zipd, nxS, frSl, retSl, retSls, retOk, retOks, tryAsS, tryOnlyS, lookB, kinE, xfE, lookF, frzE, isTR, isTB, allC, blsD, gU, raiseIS, at0, at1, at2, at3, lrE, sortC, intC, intsD, slE, intO, cutD, eqXR, slX, addT, repT, inR, cmpO, heldR, appT, lrE, sortC, intC, intsD, slE, intO, cutD, eqXR, slX, addT, repT, compX, compDx, neYR, lrevE, sumC, compE]
  refine c1 ?_
  refine ⟨trivial, by rw [List.length_map]; omega, ?_⟩
  rw [← List.map_reverse]
  refine comp_mem (clD t) (fun x => clD t (mirX W.length x)) gs.reverse [] _ (fun x hx acc ds K ih => ?_) ?_
  · have bx := bd x (List.mem_reverse.mp hx)
    have e1 : ((mirX W.length x).1 : Int) = (W.length : Int) - 1 - lastI x := by
      show ((W.length - (x.1 + x.2.length) : Nat) : Int) = _
      unfold lastI
      omega
    have e2 : lastI (mirX W.length x) = (W.length : Int) - 1 - (x.1 : Int) := by
      unfold lastI
      show ((W.length - (x.1 + x.2.length) : Nat) : Int) + ((mirW x.2).length : Int) - 1 = _
      rw [mirW_len]
      omega
    have e3 : gp (mirX W.length x).2 t = -gp x.2 t := gp_mir x.2 t
    have e4 : gu (mirX W.length x).2 = -gu x.2 := gu_mir x.2
    have e5 : gM (mirX W.length x).2 = gM x.2 := gM_mir x.2
    have e6 : clD t (mirX W.length x) = .tup [.int ((W.length : Int) - 1 - lastI x), .int ((W.length : Int) - 1 - (x.1 : Int)), frD (-gp x.2 t), frD (-gu x.2), .int (gM x.2)] := by
      unfold clD
      rw [e1, e2, e3, e4, e5]
    rw [e6] at ih
    simp [cE, vE, bE, rE, fE, mE, bin, nilA, consA, bT, andT, orT, notT, tupE, lstE, allV, allM, okB, intR, addR, asL, asT, asD, eqR, eqD_nn, eqD_bb, eqD_ii, eqD_ss, eqD_tt, eqD_ll, eqD_bi, eqD_ib, eqD_nt, eqD_tn, eqD_it, eqD_ti, eqD_ni, eqD_in, eqDs_nn, eqDs_cc, eqDs_nc, eqDs_cn, cmpD, cmpDs, depD, depDs, isNon, isNR, chainE, tvE, andV, orV, notV, ifE, slEV, ixR, callV, lenC, isiC, tyN, pick, retEV, callP, argD, argDs, seqS, bkS, ctS, exprS, retS, retNS, ifS, evSl, setS, SK.loop, gN, gNil, gCons, gT, asgS, parS, defF, defK, raiseS, absC, divmodC, mmC, stL, itL, itT, itR1, itR2, itE, shL, itZ, itV, forS, evD, methL, appL, clrL, popL, insL, trL, extL, setixS, argS, argSs, callI, callN, hereA, nextA, negE, itS, wipeR, compE, compD, yesT, seqD, listC, tupC, numd, zipd, nxS, frSl, retSl, retSls, retOk, retOks, tryAsS, tryOnlyS, lookB, kinE, xfE, lookF, frzE, isTR, isTB, allC, blsD, gU, raiseIS, at0, at1, at2, at3, lrE, sortC, intC, intsD, slE, intO, cutD, eqXR, slX, addT, repT, inR, cmpO, heldR, appT, lrE, sortC, intC, intsD, slE, intO, cutD, eqXR, slX, addT, repT, compX, compDx, neYR, lrevE, sumC, clD, at2, at3, at4']
    refine ⟨_, rfl, ?_⟩
    simp [cE, vE, bE, rE, fE, mE, bin, nilA, consA, bT, andT, orT, notT, tupE, lstE, allV, allM, okB, intR, addR, asL, asT, asD, eqR, eqD_nn, eqD_bb, eqD_ii, eqD_ss, eqD_tt, eqD_ll, eqD_bi, eqD_ib, eqD_nt, eqD_tn, eqD_it, eqD_ti, eqD_ni, eqD_in, eqDs_nn, eqDs_cc, eqDs_nc, eqDs_cn, cmpD, cmpDs, depD, depDs, isNon, isNR, chainE, tvE, andV, orV, notV, ifE, slEV, ixR, callV, lenC, isiC, tyN, pick, retEV, callP, argD, argDs, seqS, bkS, ctS, exprS, retS, retNS, ifS, evSl, setS, SK.loop, gN, gNil, gCons, gT, asgS, parS, defF, defK, raiseS, absC, divmodC, mmC, stL, itL, itT, itR1, itR2, itE, shL, itZ, itV, forS, evD, methL, appL, clrL, popL, insL, trL, extL, setixS, argS, argSs, callI, callN, hereA, nextA, negE, itS, wipeR, compE, compD, yesT, seqD, listC, tupC, numd, zipd, nxS, frSl, retSl, retSls, retOk, retOks, tryAsS, tryOnlyS, lookB, kinE, xfE, lookF, frzE, isTR, isTB, allC, blsD, gU, raiseIS, at0, at1, at2, at3, lrE, sortC, intC, intsD, slE, intO, cutD, eqXR, slX, addT, repT, inR, cmpO, heldR, appT, lrE, sortC, intC, intsD, slE, intO, cutD, eqXR, slX, addT, repT, compX, compDx, neYR, lrevE, sumC]
    refine ⟨_, rfl, ?_⟩
    simp [cE, vE, bE, rE, fE, mE, bin, nilA, consA, bT, andT, orT, notT, tupE, lstE, allV, allM, okB, intR, addR, asL, asT, asD, eqR, eqD_nn, eqD_bb, eqD_ii, eqD_ss, eqD_tt, eqD_ll, eqD_bi, eqD_ib, eqD_nt, eqD_tn, eqD_it, eqD_ti, eqD_ni, eqD_in, eqDs_nn, eqDs_cc, eqDs_nc, eqDs_cn, cmpD, cmpDs, depD, depDs, isNon, isNR, chainE, tvE, andV, orV, notV, ifE, slEV, ixR, callV, lenC, isiC, tyN, pick, retEV, callP, argD, argDs, seqS, bkS, ctS, exprS, retS, retNS, ifS, evSl, setS, SK.loop, gN, gNil, gCons, gT, asgS, parS, defF, defK, raiseS, absC, divmodC, mmC, stL, itL, itT, itR1, itR2, itE, shL, itZ, itV, forS, evD, methL, appL, clrL, popL, insL, trL, extL, setixS, argS, argSs, callI, callN, hereA, nextA, negE, itS, wipeR, compE, compD, yesT, seqD, listC, tupC, numd, zipd, nxS, frSl, retSl, retSls, retOk, retOks, tryAsS, tryOnlyS, lookB, kinE, xfE, lookF, frzE, isTR, isTB, allC, blsD, gU, raiseIS, at0, at1, at2, at3, lrE, sortC, intC, intsD, slE, intO, cutD, eqXR, slX, addT, repT, inR, cmpO, heldR, appT, lrE, sortC, intC, intsD, slE, intO, cutD, eqXR, slX, addT, repT, compX, compDx, neYR, lrevE, sumC]
    exact ih
  rw [List.nil_append]
  have e2 : (gs.reverse.map fun x => clD t (mirX W.length x)) = (mirR W.length gs).map (clD t) := by unfold mirR; rw [List.map_map]; rfl
  rw [e2]
  obtain ⟨d1, d2, d3⟩ := self_cl (t := t) (mirR W.length gs)
  have ro := retOks_cl (t := t) (mirR W.length gs)
  generalize mirR W.length gs = F at *
  have bsm : ∀ b ∈ W, Sm 3000 b.p ∧ Sm 3000 b.u := fun b hb => by
    have c := cw.ok b hb
    exact ⟨(fq_sm c.p 20 (by decide) (by unfold Si; decide) (by decide) (by decide)).mono (by decide), (fq_sm c.u 20 (by decide) (by unfold Si; decide) (by decide) (by decide)).mono (by decide)⟩
  simp [sf__law_mirror_r1, cE, vE, bE, rE, fE, mE, bin, nilA, consA, bT, andT, orT, notT, tupE, lstE, allV, allM, okB, intR, addR, asL, asT, asD, eqR, eqD_nn, eqD_bb, eqD_ii, eqD_ss, eqD_tt, eqD_ll, eqD_bi, eqD_ib, eqD_nt, eqD_tn, eqD_it, eqD_ti, eqD_ni, eqD_in, eqDs_nn, eqDs_cc, eqDs_nc, eqDs_cn, cmpD, cmpDs, depD, depDs, isNon, isNR, chainE, tvE, andV, orV, notV, ifE, slEV, ixR, callV, lenC, isiC, tyN, pick, retEV, callP, argD, argDs, seqS, bkS, ctS, exprS, retS, retNS, ifS, evSl, setS, SK.loop, gN, gNil, gCons, gT, asgS, parS, defF, defK, raiseS, absC, divmodC, mmC, stL, itL, itT, itR1, itR2, itE, shL, itZ, itV, forS, evD, methL, appL, clrL, popL, insL, trL, extL, setixS, argS, argSs, callI, callN, hereA, nextA, negE, itS, wipeR, yesT, seqD, listC, tupC, numd, zipd, nxS, frSl, retSl, retSls, retOk, retOks, tryAsS, tryOnlyS, lookB, kinE, xfE, lookF, frzE, isTR, isTB, allC, blsD, gU, raiseIS, at0, at1, at2, at3, lrE, sortC, intC, intsD, slE, intO, cutD, eqXR, slX, addT, repT, inR, cmpO, heldR, appT, lrE, sortC, intC, intsD, slE, intO, cutD, eqXR, slX, addT, repT, compX, compDx, neYR, lrevE, sumC]
  rw [F_mirrored_w (by omega) bsm]
  have rw2 := retOks_w (mirW W)
  have ew : W.reverse.map negW = mirW W := rfl
  rw [ew]
  simp [cE, vE, bE, rE, fE, mE, bin, nilA, consA, bT, andT, orT, notT, tupE, lstE, allV, allM, okB, intR, addR, asL, asT, asD, eqR, eqD_nn, eqD_bb, eqD_ii, eqD_ss, eqD_tt, eqD_ll, eqD_bi, eqD_ib, eqD_nt, eqD_tn, eqD_it, eqD_ti, eqD_ni, eqD_in, eqDs_nn, eqDs_cc, eqDs_nc, eqDs_cn, cmpD, cmpDs, depD, depDs, isNon, isNR, chainE, tvE, andV, orV, notV, ifE, slEV, ixR, callV, lenC, isiC, tyN, pick, retEV, callP, argD, argDs, seqS, bkS, ctS, exprS, retS, retNS, ifS, evSl, setS, SK.loop, gN, gNil, gCons, gT, asgS, parS, defF, defK, raiseS, absC, divmodC, mmC, stL, itL, itT, itR1, itR2, itE, shL, itZ, itV, forS, evD, methL, appL, clrL, popL, insL, trL, extL, setixS, argS, argSs, callI, callN, hereA, nextA, negE, itS, wipeR, yesT, seqD, listC, tupC, numd, zipd, nxS, frSl, retSl, retSls, retOk, retOks, tryAsS, tryOnlyS, lookB, kinE, xfE, lookF, frzE, isTR, isTB, allC, blsD, gU, raiseIS, at0, at1, at2, at3, lrE, sortC, intC, intsD, slE, intO, cutD, eqXR, slX, addT, repT, inR, cmpO, heldR, appT, lrE, sortC, intC, intsD, slE, intO, cutD, eqXR, slX, addT, repT, compX, compDx, neYR, lrevE, sumC, rw2]
  refine c2 ?_
  simp [cE, vE, bE, rE, fE, mE, bin, nilA, consA, bT, andT, orT, notT, tupE, lstE, allV, allM, okB, intR, addR, asL, asT, asD, eqR, eqD_nn, eqD_bb, eqD_ii, eqD_ss, eqD_tt, eqD_ll, eqD_bi, eqD_ib, eqD_nt, eqD_tn, eqD_it, eqD_ti, eqD_ni, eqD_in, eqDs_nn, eqDs_cc, eqDs_nc, eqDs_cn, cmpD, cmpDs, depD, depDs, isNon, isNR, chainE, tvE, andV, orV, notV, ifE, slEV, ixR, callV, lenC, isiC, tyN, pick, retEV, callP, argD, argDs, seqS, bkS, ctS, exprS, retS, retNS, ifS, evSl, setS, SK.loop, gN, gNil, gCons, gT, asgS, parS, defF, defK, raiseS, absC, divmodC, mmC, stL, itL, itT, itR1, itR2, itE, shL, itZ, itV, forS, evD, methL, appL, clrL, popL, insL, trL, extL, setixS, argS, argSs, callI, callN, hereA, nextA, negE, itS, wipeR, yesT, seqD, listC, tupC, numd, zipd, nxS, frSl, retSl, retSls, retOk, retOks, tryAsS, tryOnlyS, lookB, kinE, xfE, lookF, frzE, isTR, isTB, allC, blsD, gU, raiseIS, at0, at1, at2, at3, lrE, sortC, intC, intsD, slE, intO, cutD, eqXR, slX, addT, repT, inR, cmpO, heldR, appT, lrE, sortC, intC, intsD, slE, intO, cutD, eqXR, slX, addT, repT, compX, compDx, neYR, lrevE, sumC, d1, d2, ro]
  exact ⟨by omega, h⟩
theorem to__law_seen : ∀ ss K E, F__law_seen ss K E → defF [false, false, false] 9 sf__law_seen ss K E := fun ss K E h => by
  obtain ⟨st, W, c, t, rfl, ⟨cw, fc, mo⟩, h⟩ := h
  have gw := cw.sv fc
  have ok := clAt_ok cw.gw mo.2
  have lr := row_len ok.ok
  have sc := sv_cl cw c t
  have sr := sv_run cw c
  have rt := run_times2 cw.all2 13 0 (sng 0 W) cw.gw.ci Rat.le_refl
  have rl := run_len 13 0 (sng 0 W) cw.gw.ci
  have cl := cw.le
  have s1 := fq_sm fc 20 (by decide) (by unfold Si; decide) (by decide) (by decide)
  have c1 : ∀ {st : Bool} {K : EV → List Sl → Prop} {E : Exc → List Sl → Prop}, K (.m (.l ((clAt W t).map (clD t)))) [] → F_clumps_at [.v (.lst st (W.map wD)), .v (frD t)] K E := fun {st K E} k => clumps_at_f cw.gw ⟨mo.1.mono (by decide), mo.2⟩ k
  have c2 : ∀ {st : Bool} {K : EV → List Sl → Prop} {E : Exc → List Sl → Prop}, K (.m (.l ((clAt (svG c W) t).map (clD t)))) [] → F_clumps_at [.v (.lst st ((svG c W).map wD)), .v (frD t)] K E := fun {st K E} k => clumps_at_f gw ⟨mo.1.mono (by decide), mo.2⟩ k
  have r1 : ∀ {st : Bool} {K : EV → List Sl → Prop} {E : Exc → List Sl → Prop}, K (.m (.l ((runG 13 0 (sng 0 W)).map rnD))) [] → F_stuck_run [.v (.lst st (W.map wD))] K E := fun {st K E} k => ⟨st, W, rfl, cw.gw, k⟩
  have r2 : ∀ {st : Bool} {K : EV → List Sl → Prop} {E : Exc → List Sl → Prop}, K (.m (.l ((runG 13 0 (sng 0 (svG c W))).map rnD))) [] → F_stuck_run [.v (.lst st ((svG c W).map wD))] K E := fun {st K E} k => ⟨st, svG c W, rfl, gw, k⟩
  rw [sc] at c2
  rw [sr] at r2
  have npg : ∀ x ∈ clAt W t, Sm 600 (gp x.2 t) ∧ Sm 600 (gu x.2) ∧ gp (svG c x.2) t = gp x.2 t - c * t ∧ gu (svG c x.2) = gu x.2 - c := fun x hx => by
    have g := ok.ok.g hx
    exact ⟨(gp_sm g mo.1).mono (by decide), g.su.mono (by decide), gp_sv g.ok g.ne, gu_sv g.ok g.ne⟩
  have npr : ∀ y ∈ runG 13 0 (sng 0 W), Sm 600 (gp y.2.2 y.1) ∧ gp (svG c y.2.2) y.1 = gp y.2.2 y.1 - c * y.1 := fun y hy => by
    obtain ⟨st_, y0⟩ := rt y hy
    have inn := (run_there 13 0 (sng 0 W) cw.gw.ci y hy).2
    have g := (clAt_ok cw.gw y0).ok.g inn
    exact ⟨(gp_sm g st_).mono (by decide), gp_sv g.ok g.ne⟩
  generalize clAt W t = gs at *
  generalize runG 13 0 (sng 0 W) = R at *
  have rr : ∀ R : List (Rat × Gp), retOks (R.map rnD) = true := fun R => by
    induction R with
    | nil => rfl
    | cons x R ih =>
      rw [List.map_cons]
      show (retOk (rnD x) && retOks (R.map rnD)) = true
      rw [ih]
      rfl
  have bsm : ∀ b ∈ W, Sm 3000 b.p ∧ Sm 3000 b.u := fun b hb => by
    have c := cw.ok b hb
    exact ⟨(fq_sm c.p 20 (by decide) (by unfold Si; decide) (by decide) (by decide)).mono (by decide), (fq_sm c.u 20 (by decide) (by unfold Si; decide) (by decide) (by decide)).mono (by decide)⟩
  have s3 := s1.mono (m := 3000) (by decide)
  have s4 := s1.mono (m := 4000) (by decide)
  have t4 := mo.1.mono (m := 4000) (by decide)
  have ct := s1.mul mo.1
  have ct4 := ct.mono (m := 4000) (by decide)
  simp [sf__law_seen, cE, vE, bE, rE, fE, mE, bin, nilA, consA, bT, andT, orT, notT, tupE, lstE, allV, allM, okB, intR, addR, asL, asT, asD, eqR, eqD_nn, eqD_bb, eqD_ii, eqD_ss, eqD_tt, eqD_ll, eqD_bi, eqD_ib, eqD_nt, eqD_tn, eqD_it, eqD_ti, eqD_ni, eqD_in, eqDs_nn, eqDs_cc, eqDs_nc, eqDs_cn, cmpD, cmpDs, depD, depDs, isNon, isNR, chainE, tvE, andV, orV, notV, ifE, slEV, ixR, callV, lenC, isiC, tyN, pick, retEV, callP, argD, argDs, seqS, bkS, ctS, exprS, retS, retNS, ifS, evSl, setS, SK.loop, gN, gNil, gCons, gT, asgS, parS, defF, defK, raiseS, absC, divmodC, mmC, stL, itL, itT, itR1, itR2, itE, shL, itZ, itV, forS, evD, methL, appL, clrL, popL, insL, trL, extL, setixS, argS, argSs, callI, callN, hereA, nextA, negE, itS, wipeR, yesT, seqD, listC, tupC, numd, zipd, nxS, frSl, retSl, retSls, retOk, retOks, tryAsS, tryOnlyS, lookB, kinE, xfE, lookF, frzE, isTR, isTB, allC, blsD, gU, raiseIS, at0, at1, at2, at3, lrE, sortC, intC, intsD, slE, intO, cutD, eqXR, slX, addT, repT, inR, cmpO, heldR, appT, lrE, sortC, intC, intsD, slE, intO, cutD, eqXR, slX, addT, repT, compX, compDx, neYR, lrevE, sumC, compE]
  refine ⟨by omega, comp_mem wD (fun b => wD (svB c b)) W [] _ (fun b hb acc ds K ih => ?_) ?_⟩
  · obtain ⟨b1, b2⟩ := bsm b hb
    have e : wD (svB c b) = .tup [frD b.p, frD (b.u - c), .int b.m] := rfl
    rw [e] at ih
    simp [cE, vE, bE, rE, fE, mE, bin, nilA, consA, bT, andT, orT, notT, tupE, lstE, allV, allM, okB, intR, addR, asL, asT, asD, eqR, eqD_nn, eqD_bb, eqD_ii, eqD_ss, eqD_tt, eqD_ll, eqD_bi, eqD_ib, eqD_nt, eqD_tn, eqD_it, eqD_ti, eqD_ni, eqD_in, eqDs_nn, eqDs_cc, eqDs_nc, eqDs_cn, cmpD, cmpDs, depD, depDs, isNon, isNR, chainE, tvE, andV, orV, notV, ifE, slEV, ixR, callV, lenC, isiC, tyN, pick, retEV, callP, argD, argDs, seqS, bkS, ctS, exprS, retS, retNS, ifS, evSl, setS, SK.loop, gN, gNil, gCons, gT, asgS, parS, defF, defK, raiseS, absC, divmodC, mmC, stL, itL, itT, itR1, itR2, itE, shL, itZ, itV, forS, evD, methL, appL, clrL, popL, insL, trL, extL, setixS, argS, argSs, callI, callN, hereA, nextA, negE, itS, wipeR, compE, compD, yesT, seqD, listC, tupC, numd, zipd, nxS, frSl, retSl, retSls, retOk, retOks, tryAsS, tryOnlyS, lookB, kinE, xfE, lookF, frzE, isTR, isTB, allC, blsD, gU, raiseIS, at0, at1, at2, at3, lrE, sortC, intC, intsD, slE, intO, cutD, eqXR, slX, addT, repT, inR, cmpO, heldR, appT, lrE, sortC, intC, intsD, slE, intO, cutD, eqXR, slX, addT, repT, compX, compDx, neYR, lrevE, sumC, F_seen_from, wD, Rat.den_nz, nd] at ih ⊢
    exact ⟨⟨b2.1, b2.2, s3.1, s3.2⟩, ih⟩
  rw [List.nil_append]
  have e0 : (W.map fun b => wD (svB c b)) = (svG c W).map wD := by unfold svG; rw [List.map_map]; rfl
  rw [e0]
  simp [sf__law_seen_r3, cE, vE, bE, rE, fE, mE, bin, nilA, consA, bT, andT, orT, notT, tupE, lstE, allV, allM, okB, intR, addR, asL, asT, asD, eqR, eqD_nn, eqD_bb, eqD_ii, eqD_ss, eqD_tt, eqD_ll, eqD_bi, eqD_ib, eqD_nt, eqD_tn, eqD_it, eqD_ti, eqD_ni, eqD_in, eqDs_nn, eqDs_cc, eqDs_nc, eqDs_cn, cmpD, cmpDs, depD, depDs, isNon, isNR, chainE, tvE, andV, orV, notV, ifE, slEV, ixR, callV, lenC, isiC, tyN, pick, retEV, callP, argD, argDs, seqS, bkS, ctS, exprS, retS, retNS, ifS, evSl, setS, SK.loop, gN, gNil, gCons, gT, asgS, parS, defF, defK, raiseS, absC, divmodC, mmC, stL, itL, itT, itR1, itR2, itE, shL, itZ, itV, forS, evD, methL, appL, clrL, popL, insL, trL, extL, setixS, argS, argSs, callI, callN, hereA, nextA, negE, itS, wipeR, yesT, seqD, listC, tupC, numd, zipd, nxS, frSl, retSl, retSls, retOk, retOks, tryAsS, tryOnlyS, lookB, kinE, xfE, lookF, frzE, isTR, isTB, allC, blsD, gU, raiseIS, at0, at1, at2, at3, lrE, sortC, intC, intsD, slE, intO, cutD, eqXR, slX, addT, repT, inR, cmpO, heldR, appT, lrE, sortC, intC, intsD, slE, intO, cutD, eqXR, slX, addT, repT, compX, compDx, neYR, lrevE, sumC, compE, F__law_times, F_times, F_two, Rat.den_nz, nd]
  refine ⟨by (repeat' with_reducible apply And.intro) <;> try first | assumption | exact Sm.n (by assumption) | exact Sm.d (by assumption) | exact Si.mono (by assumption) (by decide) | exact dpos _ | exact Rat.nz _ | exact Rat.den_nz _, c1 ?_⟩
  simp [cE, vE, bE, rE, fE, mE, bin, nilA, consA, bT, andT, orT, notT, tupE, lstE, allV, allM, okB, intR, addR, asL, asT, asD, eqR, eqD_nn, eqD_bb, eqD_ii, eqD_ss, eqD_tt, eqD_ll, eqD_bi, eqD_ib, eqD_nt, eqD_tn, eqD_it, eqD_ti, eqD_ni, eqD_in, eqDs_nn, eqDs_cc, eqDs_nc, eqDs_cn, cmpD, cmpDs, depD, depDs, isNon, isNR, chainE, tvE, andV, orV, notV, ifE, slEV, ixR, callV, lenC, isiC, tyN, pick, retEV, callP, argD, argDs, seqS, bkS, ctS, exprS, retS, retNS, ifS, evSl, setS, SK.loop, gN, gNil, gCons, gT, asgS, parS, defF, defK, raiseS, absC, divmodC, mmC, stL, itL, itT, itR1, itR2, itE, shL, itZ, itV, forS, evD, methL, appL, clrL, popL, insL, trL, extL, setixS, argS, argSs, callI, callN, hereA, nextA, negE, itS, wipeR, yesT, seqD, listC, tupC, numd, zipd, nxS, frSl, retSl, retSls, retOk, retOks, tryAsS, tryOnlyS, lookB, kinE, xfE, lookF, frzE, isTR, isTB, allC, blsD, gU, raiseIS, at0, at1, at2, at3, lrE, sortC, intC, intsD, slE, intO, cutD, eqXR, slX, addT, repT, inR, cmpO, heldR, appT, lrE, sortC, intC, intsD, slE, intO, cutD, eqXR, slX, addT, repT, compX, compDx, neYR, lrevE, sumC, compE, retOks_cl]
  refine ⟨by omega, comp_mem (clD t) (fun x => clD t (svX c x)) gs [] _ (fun x hx acc ds K ih => ?_) ?_⟩
  · obtain ⟨x1, x2, x3, x4⟩ := npg x hx
    have y1 := x1.mono (m := 4000) (by decide)
    have y2 := x2.mono (m := 4000) (by decide)
    have e : clD t (svX c x) = .tup [.int (x.1 : Nat), .int (lastI x), frD (gp x.2 t - c * t), frD (gu x.2 - c), .int (gM x.2)] := by
      unfold clD
      rw [lastI_sv]
      show D.tup [.int (x.1 : Nat), .int (lastI x), frD (gp (svG c x.2) t), frD (gu (svG c x.2)), .int (gM (svG c x.2))] = _
      rw [x3, x4, gM_sv]
    rw [e] at ih
    generalize c * t = w at *
    simp [cE, vE, bE, rE, fE, mE, bin, nilA, consA, bT, andT, orT, notT, tupE, lstE, allV, allM, okB, intR, addR, asL, asT, asD, eqR, eqD_nn, eqD_bb, eqD_ii, eqD_ss, eqD_tt, eqD_ll, eqD_bi, eqD_ib, eqD_nt, eqD_tn, eqD_it, eqD_ti, eqD_ni, eqD_in, eqDs_nn, eqDs_cc, eqDs_nc, eqDs_cn, cmpD, cmpDs, depD, depDs, isNon, isNR, chainE, tvE, andV, orV, notV, ifE, slEV, ixR, callV, lenC, isiC, tyN, pick, retEV, callP, argD, argDs, seqS, bkS, ctS, exprS, retS, retNS, ifS, evSl, setS, SK.loop, gN, gNil, gCons, gT, asgS, parS, defF, defK, raiseS, absC, divmodC, mmC, stL, itL, itT, itR1, itR2, itE, shL, itZ, itV, forS, evD, methL, appL, clrL, popL, insL, trL, extL, setixS, argS, argSs, callI, callN, hereA, nextA, negE, itS, wipeR, compE, compD, yesT, seqD, listC, tupC, numd, zipd, nxS, frSl, retSl, retSls, retOk, retOks, tryAsS, tryOnlyS, lookB, kinE, xfE, lookF, frzE, isTR, isTB, allC, blsD, gU, raiseIS, at0, at1, at2, at3, lrE, sortC, intC, intsD, slE, intO, cutD, eqXR, slX, addT, repT, inR, cmpO, heldR, appT, lrE, sortC, intC, intsD, slE, intO, cutD, eqXR, slX, addT, repT, compX, compDx, neYR, lrevE, sumC, clD, at2, at3, at4', F__law_minus, F_minus, F_two, Rat.den_nz, nd] at ih ⊢
    refine ⟨by (repeat' with_reducible apply And.intro) <;> try first | assumption | exact Sm.n (by assumption) | exact Sm.d (by assumption) | exact Si.mono (by assumption) (by decide) | exact dpos _ | exact Rat.nz _ | exact Rat.den_nz _, by (repeat' with_reducible apply And.intro) <;> try first | assumption | exact Sm.n (by assumption) | exact Sm.d (by assumption) | exact Si.mono (by assumption) (by decide) | exact dpos _ | exact Rat.nz _ | exact Rat.den_nz _, ih⟩
  rw [List.nil_append]
  have e1 : (gs.map fun x => clD t (svX c x)) = (gs.map (svX c)).map (clD t) := by rw [List.map_map]; rfl
  rw [e1]
  obtain ⟨d1, d2, d3⟩ := self_cl (t := t) (gs.map (svX c))
  have ro := retOks_cl (t := t) (gs.map (svX c))
  generalize gs.map (svX c) = F at *
  simp [sf__law_seen_r2, cE, vE, bE, rE, fE, mE, bin, nilA, consA, bT, andT, orT, notT, tupE, lstE, allV, allM, okB, intR, addR, asL, asT, asD, eqR, eqD_nn, eqD_bb, eqD_ii, eqD_ss, eqD_tt, eqD_ll, eqD_bi, eqD_ib, eqD_nt, eqD_tn, eqD_it, eqD_ti, eqD_ni, eqD_in, eqDs_nn, eqDs_cc, eqDs_nc, eqDs_cn, cmpD, cmpDs, depD, depDs, isNon, isNR, chainE, tvE, andV, orV, notV, ifE, slEV, ixR, callV, lenC, isiC, tyN, pick, retEV, callP, argD, argDs, seqS, bkS, ctS, exprS, retS, retNS, ifS, evSl, setS, SK.loop, gN, gNil, gCons, gT, asgS, parS, defF, defK, raiseS, absC, divmodC, mmC, stL, itL, itT, itR1, itR2, itE, shL, itZ, itV, forS, evD, methL, appL, clrL, popL, insL, trL, extL, setixS, argS, argSs, callI, callN, hereA, nextA, negE, itS, wipeR, yesT, seqD, listC, tupC, numd, zipd, nxS, frSl, retSl, retSls, retOk, retOks, tryAsS, tryOnlyS, lookB, kinE, xfE, lookF, frzE, isTR, isTB, allC, blsD, gU, raiseIS, at0, at1, at2, at3, lrE, sortC, intC, intsD, slE, intO, cutD, eqXR, slX, addT, repT, inR, cmpO, heldR, appT, lrE, sortC, intC, intsD, slE, intO, cutD, eqXR, slX, addT, repT, compX, compDx, neYR, lrevE, sumC, compE]
  refine r1 ?_
  have rr1 := rr R
  simp [cE, vE, bE, rE, fE, mE, bin, nilA, consA, bT, andT, orT, notT, tupE, lstE, allV, allM, okB, intR, addR, asL, asT, asD, eqR, eqD_nn, eqD_bb, eqD_ii, eqD_ss, eqD_tt, eqD_ll, eqD_bi, eqD_ib, eqD_nt, eqD_tn, eqD_it, eqD_ti, eqD_ni, eqD_in, eqDs_nn, eqDs_cc, eqDs_nc, eqDs_cn, cmpD, cmpDs, depD, depDs, isNon, isNR, chainE, tvE, andV, orV, notV, ifE, slEV, ixR, callV, lenC, isiC, tyN, pick, retEV, callP, argD, argDs, seqS, bkS, ctS, exprS, retS, retNS, ifS, evSl, setS, SK.loop, gN, gNil, gCons, gT, asgS, parS, defF, defK, raiseS, absC, divmodC, mmC, stL, itL, itT, itR1, itR2, itE, shL, itZ, itV, forS, evD, methL, appL, clrL, popL, insL, trL, extL, setixS, argS, argSs, callI, callN, hereA, nextA, negE, itS, wipeR, yesT, seqD, listC, tupC, numd, zipd, nxS, frSl, retSl, retSls, retOk, retOks, tryAsS, tryOnlyS, lookB, kinE, xfE, lookF, frzE, isTR, isTB, allC, blsD, gU, raiseIS, at0, at1, at2, at3, lrE, sortC, intC, intsD, slE, intO, cutD, eqXR, slX, addT, repT, inR, cmpO, heldR, appT, lrE, sortC, intC, intsD, slE, intO, cutD, eqXR, slX, addT, repT, compX, compDx, neYR, lrevE, sumC, compE, rr1]
  refine ⟨by omega, comp_mem rnD (fun y => rnD (y.1, svX c y.2)) R [] _ (fun y hy acc ds K ih => ?_) ?_⟩
  · obtain ⟨x1, x2⟩ := npr y hy
    have y1 := x1.mono (m := 4000) (by decide)
    have q1 := (rt y hy).1
    have q4 := q1.mono (m := 4000) (by decide)
    have cq := (s1.mul q1).mono (m := 4000) (by decide)
    have e : rnD (y.1, svX c y.2) = .tup [frD y.1, frD (gp y.2.2 y.1 - c * y.1), .int (y.2.1 : Nat), .int (lastI y.2)] := by
      unfold rnD
      rw [lastI_sv]
      show D.tup [frD y.1, frD (gp (svG c y.2.2) y.1), .int (y.2.1 : Nat), .int (lastI y.2)] = _
      rw [x2]
    rw [e] at ih
    simp [cE, vE, bE, rE, fE, mE, bin, nilA, consA, bT, andT, orT, notT, tupE, lstE, allV, allM, okB, intR, addR, asL, asT, asD, eqR, eqD_nn, eqD_bb, eqD_ii, eqD_ss, eqD_tt, eqD_ll, eqD_bi, eqD_ib, eqD_nt, eqD_tn, eqD_it, eqD_ti, eqD_ni, eqD_in, eqDs_nn, eqDs_cc, eqDs_nc, eqDs_cn, cmpD, cmpDs, depD, depDs, isNon, isNR, chainE, tvE, andV, orV, notV, ifE, slEV, ixR, callV, lenC, isiC, tyN, pick, retEV, callP, argD, argDs, seqS, bkS, ctS, exprS, retS, retNS, ifS, evSl, setS, SK.loop, gN, gNil, gCons, gT, asgS, parS, defF, defK, raiseS, absC, divmodC, mmC, stL, itL, itT, itR1, itR2, itE, shL, itZ, itV, forS, evD, methL, appL, clrL, popL, insL, trL, extL, setixS, argS, argSs, callI, callN, hereA, nextA, negE, itS, wipeR, compE, compD, yesT, seqD, listC, tupC, numd, zipd, nxS, frSl, retSl, retSls, retOk, retOks, tryAsS, tryOnlyS, lookB, kinE, xfE, lookF, frzE, isTR, isTB, allC, blsD, gU, raiseIS, at0, at1, at2, at3, lrE, sortC, intC, intsD, slE, intO, cutD, eqXR, slX, addT, repT, inR, cmpO, heldR, appT, lrE, sortC, intC, intsD, slE, intO, cutD, eqXR, slX, addT, repT, compX, compDx, neYR, lrevE, sumC, rnD, at2, at3, F__law_minus, F_minus, F__law_times, F_times, F_two, Rat.den_nz, nd] at ih ⊢
    refine ⟨by (repeat' with_reducible apply And.intro) <;> try first | assumption | exact Sm.n (by assumption) | exact Sm.d (by assumption) | exact Si.mono (by assumption) (by decide) | exact dpos _ | exact Rat.nz _ | exact Rat.den_nz _, by (repeat' with_reducible apply And.intro) <;> try first | assumption | exact Sm.n (by assumption) | exact Sm.d (by assumption) | exact Si.mono (by assumption) (by decide) | exact dpos _ | exact Rat.nz _ | exact Rat.den_nz _, ih⟩
  rw [List.nil_append]
  have e2 : (R.map fun y => rnD (y.1, svX c y.2)) = (R.map fun y => (y.1, svX c y.2)).map rnD := by rw [List.map_map]; rfl
  rw [e2]
  obtain ⟨g1, g2, g3⟩ := self_rn (R.map fun y => (y.1, svX c y.2))
  have rr2 := rr (R.map fun y => (y.1, svX c y.2))
  generalize (R.map fun y => (y.1, svX c y.2)) = R2 at *
  simp [sf__law_seen_r1, cE, vE, bE, rE, fE, mE, bin, nilA, consA, bT, andT, orT, notT, tupE, lstE, allV, allM, okB, intR, addR, asL, asT, asD, eqR, eqD_nn, eqD_bb, eqD_ii, eqD_ss, eqD_tt, eqD_ll, eqD_bi, eqD_ib, eqD_nt, eqD_tn, eqD_it, eqD_ti, eqD_ni, eqD_in, eqDs_nn, eqDs_cc, eqDs_nc, eqDs_cn, cmpD, cmpDs, depD, depDs, isNon, isNR, chainE, tvE, andV, orV, notV, ifE, slEV, ixR, callV, lenC, isiC, tyN, pick, retEV, callP, argD, argDs, seqS, bkS, ctS, exprS, retS, retNS, ifS, evSl, setS, SK.loop, gN, gNil, gCons, gT, asgS, parS, defF, defK, raiseS, absC, divmodC, mmC, stL, itL, itT, itR1, itR2, itE, shL, itZ, itV, forS, evD, methL, appL, clrL, popL, insL, trL, extL, setixS, argS, argSs, callI, callN, hereA, nextA, negE, itS, wipeR, yesT, seqD, listC, tupC, numd, zipd, nxS, frSl, retSl, retSls, retOk, retOks, tryAsS, tryOnlyS, lookB, kinE, xfE, lookF, frzE, isTR, isTB, allC, blsD, gU, raiseIS, at0, at1, at2, at3, lrE, sortC, intC, intsD, slE, intO, cutD, eqXR, slX, addT, repT, inR, cmpO, heldR, appT, lrE, sortC, intC, intsD, slE, intO, cutD, eqXR, slX, addT, repT, compX, compDx, neYR, lrevE, sumC]
  refine c2 ?_
  simp [cE, vE, bE, rE, fE, mE, bin, nilA, consA, bT, andT, orT, notT, tupE, lstE, allV, allM, okB, intR, addR, asL, asT, asD, eqR, eqD_nn, eqD_bb, eqD_ii, eqD_ss, eqD_tt, eqD_ll, eqD_bi, eqD_ib, eqD_nt, eqD_tn, eqD_it, eqD_ti, eqD_ni, eqD_in, eqDs_nn, eqDs_cc, eqDs_nc, eqDs_cn, cmpD, cmpDs, depD, depDs, isNon, isNR, chainE, tvE, andV, orV, notV, ifE, slEV, ixR, callV, lenC, isiC, tyN, pick, retEV, callP, argD, argDs, seqS, bkS, ctS, exprS, retS, retNS, ifS, evSl, setS, SK.loop, gN, gNil, gCons, gT, asgS, parS, defF, defK, raiseS, absC, divmodC, mmC, stL, itL, itT, itR1, itR2, itE, shL, itZ, itV, forS, evD, methL, appL, clrL, popL, insL, trL, extL, setixS, argS, argSs, callI, callN, hereA, nextA, negE, itS, wipeR, yesT, seqD, listC, tupC, numd, zipd, nxS, frSl, retSl, retSls, retOk, retOks, tryAsS, tryOnlyS, lookB, kinE, xfE, lookF, frzE, isTR, isTB, allC, blsD, gU, raiseIS, at0, at1, at2, at3, lrE, sortC, intC, intsD, slE, intO, cutD, eqXR, slX, addT, repT, inR, cmpO, heldR, appT, lrE, sortC, intC, intsD, slE, intO, cutD, eqXR, slX, addT, repT, compX, compDx, neYR, lrevE, sumC, d1, d2, ro]
  refine ⟨by omega, r2 ?_⟩
  simp [cE, vE, bE, rE, fE, mE, bin, nilA, consA, bT, andT, orT, notT, tupE, lstE, allV, allM, okB, intR, addR, asL, asT, asD, eqR, eqD_nn, eqD_bb, eqD_ii, eqD_ss, eqD_tt, eqD_ll, eqD_bi, eqD_ib, eqD_nt, eqD_tn, eqD_it, eqD_ti, eqD_ni, eqD_in, eqDs_nn, eqDs_cc, eqDs_nc, eqDs_cn, cmpD, cmpDs, depD, depDs, isNon, isNR, chainE, tvE, andV, orV, notV, ifE, slEV, ixR, callV, lenC, isiC, tyN, pick, retEV, callP, argD, argDs, seqS, bkS, ctS, exprS, retS, retNS, ifS, evSl, setS, SK.loop, gN, gNil, gCons, gT, asgS, parS, defF, defK, raiseS, absC, divmodC, mmC, stL, itL, itT, itR1, itR2, itE, shL, itZ, itV, forS, evD, methL, appL, clrL, popL, insL, trL, extL, setixS, argS, argSs, callI, callN, hereA, nextA, negE, itS, wipeR, yesT, seqD, listC, tupC, numd, zipd, nxS, frSl, retSl, retSls, retOk, retOks, tryAsS, tryOnlyS, lookB, kinE, xfE, lookF, frzE, isTR, isTB, allC, blsD, gU, raiseIS, at0, at1, at2, at3, lrE, sortC, intC, intsD, slE, intO, cutD, eqXR, slX, addT, repT, inR, cmpO, heldR, appT, lrE, sortC, intC, intsD, slE, intO, cutD, eqXR, slX, addT, repT, compX, compDx, neYR, lrevE, sumC, g1, g2, rr2]
  exact ⟨by omega, h⟩
theorem to_law : ∀ ss K E, F_law ss K E → defF [false] 7 sf_law ss K E := fun ss K E h => by
  unfold F_law at h
  split at h
  · rename_i ds
    obtain ⟨⟨ns, rfl, hl, hb⟩, h⟩ := h
    have hs : isScript (ns.map .int) := ⟨ns, rfl, hl, fun n hn => Si.mono (n := 1048576) (bits_si (hb n hn)) (by decide)⟩
    simp [sf_law, cE, vE, bE, rE, fE, mE, bin, nilA, consA, bT, andT, orT, notT, tupE, lstE, allV, allM, okB, intR, addR, asL, asT, asD, eqR, eqD_nn, eqD_bb, eqD_ii, eqD_ss, eqD_tt, eqD_ll, eqD_bi, eqD_ib, eqD_nt, eqD_tn, eqD_it, eqD_ti, eqD_ni, eqD_in, eqDs_nn, eqDs_cc, eqDs_nc, eqDs_cn, cmpD, cmpDs, depD, depDs, isNon, isNR, chainE, tvE, andV, orV, notV, ifE, slEV, ixR, callV, lenC, isiC, tyN, pick, retEV, callP, argD, argDs, seqS, bkS, ctS, exprS, retS, retNS, ifS, evSl, setS, SK.loop, gN, gNil, gCons, gT, asgS, parS, defF, defK, raiseS, absC, divmodC, mmC, stL, itL, itT, itR1, itR2, itE, shL, itZ, itV, forS, evD, methL, appL, clrL, popL, insL, trL, extL, setixS, argS, argSs, callI, callN, hereA, nextA, negE, itS, wipeR, yesT, seqD, listC, tupC, numd, zipd, nxS, frSl, retSl, retSls, retOk, retOks, tryAsS, tryOnlyS, lookB, kinE, xfE, lookF, frzE, isTR, isTB, allC, blsD, gU, raiseIS, at0, at1, at2, at3, lrE, sortC, intC, intsD, slE, intO, cutD, eqXR, slX, addT, repT, inR, cmpO, heldR, appT, lrE, sortC, intC, intsD, slE, intO, cutD, eqXR, slX, addT, repT, compX, compDx, neYR, lrevE, sumC]
    generalize hm : (if 1 < if 2 < (ns.length : Int) then 2 else (ns.length : Int) then if 2 < (ns.length : Int) then 2 else (ns.length : Int) else 1) = mm
    have hmm : 0 ≤ mm ∧ mm ≤ 8 := by omega
    refine ⟨⟨by omega, by omega⟩, ?_⟩
    refine loop_inv (fun i ρ => ∃ x1 x2 x3 x4 x5 x6, ρ = [.v (.lst true (ns.map .int)), x1, x2, x3, x4, x5, x6]) ⟨_, _, _, _, _, _, rfl⟩ ?_ ?_
    · rintro i d ρ K' hd ⟨x1, x2, x3, x4, x5, x6, rfl⟩ next
      obtain ⟨hi, rfl⟩ := rngD_get hd
      simp [cE, vE, bE, rE, fE, mE, bin, nilA, consA, bT, andT, orT, notT, tupE, lstE, allV, allM, okB, intR, addR, asL, asT, asD, eqR, eqD_nn, eqD_bb, eqD_ii, eqD_ss, eqD_tt, eqD_ll, eqD_bi, eqD_ib, eqD_nt, eqD_tn, eqD_it, eqD_ti, eqD_ni, eqD_in, eqDs_nn, eqDs_cc, eqDs_nc, eqDs_cn, cmpD, cmpDs, depD, depDs, isNon, isNR, chainE, tvE, andV, orV, notV, ifE, slEV, ixR, callV, lenC, isiC, tyN, pick, retEV, callP, argD, argDs, seqS, bkS, ctS, exprS, retS, retNS, ifS, evSl, setS, SK.loop, gN, gNil, gCons, gT, asgS, parS, defF, defK, raiseS, absC, divmodC, mmC, stL, itL, itT, itR1, itR2, itE, shL, itZ, itV, forS, evD, methL, appL, clrL, popL, insL, trL, extL, setixS, argS, argSs, callI, callN, hereA, nextA, negE, itS, wipeR, yesT, seqD, listC, tupC, numd, zipd, nxS, frSl, retSl, retSls, retOk, retOks, tryAsS, tryOnlyS, lookB, kinE, xfE, lookF, frzE, isTR, isTB, allC, blsD, gU, raiseIS, at0, at1, at2, at3, lrE, sortC, intC, intsD, slE, intO, cutD, eqXR, slX, addT, repT, inR, cmpO, heldR, appT, lrE, sortC, intC, intsD, slE, intO, cutD, eqXR, slX, addT, repT, compX, compDx, neYR, lrevE, sumC, F__law_box, F__law_world]
      refine ⟨⟨hs, by omega⟩, fun W n1 cw => ?_⟩
      refine ⟨n1, true, W, rfl, cw, fun ms n2 ⟨lm0, lms⟩ hms => ?_⟩
      simp [cE, vE, bE, rE, fE, mE, bin, nilA, consA, bT, andT, orT, notT, tupE, lstE, allV, allM, okB, intR, addR, asL, asT, asD, eqR, eqD_nn, eqD_bb, eqD_ii, eqD_ss, eqD_tt, eqD_ll, eqD_bi, eqD_ib, eqD_nt, eqD_tn, eqD_it, eqD_ti, eqD_ni, eqD_in, eqDs_nn, eqDs_cc, eqDs_nc, eqDs_cn, cmpD, cmpDs, depD, depDs, isNon, isNR, chainE, tvE, andV, orV, notV, ifE, slEV, ixR, callV, lenC, isiC, tyN, pick, retEV, callP, argD, argDs, seqS, bkS, ctS, exprS, retS, retNS, ifS, evSl, setS, SK.loop, gN, gNil, gCons, gT, asgS, parS, defF, defK, raiseS, absC, divmodC, mmC, stL, itL, itT, itR1, itR2, itE, shL, itZ, itV, forS, evD, methL, appL, clrL, popL, insL, trL, extL, setixS, argS, argSs, callI, callN, hereA, nextA, negE, itS, wipeR, yesT, seqD, listC, tupC, numd, zipd, nxS, frSl, retSl, retSls, retOk, retOks, tryAsS, tryOnlyS, lookB, kinE, xfE, lookF, frzE, isTR, isTB, allC, blsD, gU, raiseIS, at0, at1, at2, at3, lrE, sortC, intC, intsD, slE, intO, cutD, eqXR, slX, addT, repT, inR, cmpO, heldR, appT, lrE, sortC, intC, intsD, slE, intO, cutD, eqXR, slX, addT, repT, compX, compDx, neYR, lrevE, sumC, F__law_take]
      have ix : ∀ d : Int, 0 ≤ d → d < ms.length → ∃ m ∈ ms, L2.atI (ms.map frD) d = some (frD m) := fun d d0 d1 => by
        obtain ⟨m, em⟩ : ∃ m, ms[d.toNat]? = some m := ⟨ms[d.toNat]'(by omega), List.getElem?_eq_getElem (by omega)⟩
        exact ⟨m, List.mem_of_getElem? em, atI_of84 d0 (by rw [List.getElem?_map, em]; rfl)⟩
      refine ⟨⟨by omega, by unfold Si; omega⟩, fun d d0 d1 => ?_⟩
      obtain ⟨m1, k1, i1⟩ := ix d d0 d1
      rw [i1]
      refine ⟨⟨by omega, by unfold Si; omega⟩, fun d' n4 d0' d1' => ?_⟩
      obtain ⟨m2, k2, i2⟩ := ix d' d0' d1'
      rw [i2]
      refine ⟨true, W, m1, m2, rfl, ⟨cw, hms m1 k1, hms m2 k2⟩, ?_⟩
      simp [cE, vE, bE, rE, fE, mE, bin, nilA, consA, bT, andT, orT, notT, tupE, lstE, allV, allM, okB, intR, addR, asL, asT, asD, eqR, eqD_nn, eqD_bb, eqD_ii, eqD_ss, eqD_tt, eqD_ll, eqD_bi, eqD_ib, eqD_nt, eqD_tn, eqD_it, eqD_ti, eqD_ni, eqD_in, eqDs_nn, eqDs_cc, eqDs_nc, eqDs_cn, cmpD, cmpDs, depD, depDs, isNon, isNR, chainE, tvE, andV, orV, notV, ifE, slEV, ixR, callV, lenC, isiC, tyN, pick, retEV, callP, argD, argDs, seqS, bkS, ctS, exprS, retS, retNS, ifS, evSl, setS, SK.loop, gN, gNil, gCons, gT, asgS, parS, defF, defK, raiseS, absC, divmodC, mmC, stL, itL, itT, itR1, itR2, itE, shL, itZ, itV, forS, evD, methL, appL, clrL, popL, insL, trL, extL, setixS, argS, argSs, callI, callN, hereA, nextA, negE, itS, wipeR, yesT, seqD, listC, tupC, numd, zipd, nxS, frSl, retSl, retSls, retOk, retOks, tryAsS, tryOnlyS, lookB, kinE, xfE, lookF, frzE, isTR, isTB, allC, blsD, gU, raiseIS, at0, at1, at2, at3, lrE, sortC, intC, intsD, slE, intO, cutD, eqXR, slX, addT, repT, inR, cmpO, heldR, appT, lrE, sortC, intC, intsD, slE, intO, cutD, eqXR, slX, addT, repT, compX, compDx, neYR, lrevE, sumC]
      refine ⟨true, W, m1, rfl, ⟨cw, hms m1 k1⟩, ?_⟩
      simp [cE, vE, bE, rE, fE, mE, bin, nilA, consA, bT, andT, orT, notT, tupE, lstE, allV, allM, okB, intR, addR, asL, asT, asD, eqR, eqD_nn, eqD_bb, eqD_ii, eqD_ss, eqD_tt, eqD_ll, eqD_bi, eqD_ib, eqD_nt, eqD_tn, eqD_it, eqD_ti, eqD_ni, eqD_in, eqDs_nn, eqDs_cc, eqDs_nc, eqDs_cn, cmpD, cmpDs, depD, depDs, isNon, isNR, chainE, tvE, andV, orV, notV, ifE, slEV, ixR, callV, lenC, isiC, tyN, pick, retEV, callP, argD, argDs, seqS, bkS, ctS, exprS, retS, retNS, ifS, evSl, setS, SK.loop, gN, gNil, gCons, gT, asgS, parS, defF, defK, raiseS, absC, divmodC, mmC, stL, itL, itT, itR1, itR2, itE, shL, itZ, itV, forS, evD, methL, appL, clrL, popL, insL, trL, extL, setixS, argS, argSs, callI, callN, hereA, nextA, negE, itS, wipeR, yesT, seqD, listC, tupC, numd, zipd, nxS, frSl, retSl, retSls, retOk, retOks, tryAsS, tryOnlyS, lookB, kinE, xfE, lookF, frzE, isTR, isTB, allC, blsD, gU, raiseIS, at0, at1, at2, at3, lrE, sortC, intC, intsD, slE, intO, cutD, eqXR, slX, addT, repT, inR, cmpO, heldR, appT, lrE, sortC, intC, intsD, slE, intO, cutD, eqXR, slX, addT, repT, compX, compDx, neYR, lrevE, sumC, F__law_small]
      refine fun c n5 sc => ⟨true, W, c, m2, rfl, ⟨cw, ?_, hms m2 k2⟩, ?_⟩
      · obtain ⟨k, e, k0, k1⟩ := sc
        refine ⟨12 * k, ?_, by omega, by omega⟩
        rw [e, Rat.intCast_mul]
        grind
      simp [cE, vE, bE, rE, fE, mE, bin, nilA, consA, bT, andT, orT, notT, tupE, lstE, allV, allM, okB, intR, addR, asL, asT, asD, eqR, eqD_nn, eqD_bb, eqD_ii, eqD_ss, eqD_tt, eqD_ll, eqD_bi, eqD_ib, eqD_nt, eqD_tn, eqD_it, eqD_ti, eqD_ni, eqD_in, eqDs_nn, eqDs_cc, eqDs_nc, eqDs_cn, cmpD, cmpDs, depD, depDs, isNon, isNR, chainE, tvE, andV, orV, notV, ifE, slEV, ixR, callV, lenC, isiC, tyN, pick, retEV, callP, argD, argDs, seqS, bkS, ctS, exprS, retS, retNS, ifS, evSl, setS, SK.loop, gN, gNil, gCons, gT, asgS, parS, defF, defK, raiseS, absC, divmodC, mmC, stL, itL, itT, itR1, itR2, itE, shL, itZ, itV, forS, evD, methL, appL, clrL, popL, insL, trL, extL, setixS, argS, argSs, callI, callN, hereA, nextA, negE, itS, wipeR, yesT, seqD, listC, tupC, numd, zipd, nxS, frSl, retSl, retSls, retOk, retOks, tryAsS, tryOnlyS, lookB, kinE, xfE, lookF, frzE, isTR, isTB, allC, blsD, gU, raiseIS, at0, at1, at2, at3, lrE, sortC, intC, intsD, slE, intO, cutD, eqXR, slX, addT, repT, inR, cmpO, heldR, appT, lrE, sortC, intC, intsD, slE, intO, cutD, eqXR, slX, addT, repT, compX, compDx, neYR, lrevE, sumC]
      exact next _ ⟨_, _, _, _, _, _, rfl⟩
    · rintro ρ ⟨x1, x2, x3, x4, x5, x6, rfl⟩
      simp [sf_law_r1, cE, vE, bE, rE, fE, mE, bin, nilA, consA, bT, andT, orT, notT, tupE, lstE, allV, allM, okB, intR, addR, asL, asT, asD, eqR, eqD_nn, eqD_bb, eqD_ii, eqD_ss, eqD_tt, eqD_ll, eqD_bi, eqD_ib, eqD_nt, eqD_tn, eqD_it, eqD_ti, eqD_ni, eqD_in, eqDs_nn, eqDs_cc, eqDs_nc, eqDs_cn, cmpD, cmpDs, depD, depDs, isNon, isNR, chainE, tvE, andV, orV, notV, ifE, slEV, ixR, callV, lenC, isiC, tyN, pick, retEV, callP, argD, argDs, seqS, bkS, ctS, exprS, retS, retNS, ifS, evSl, setS, SK.loop, gN, gNil, gCons, gT, asgS, parS, defF, defK, raiseS, absC, divmodC, mmC, stL, itL, itT, itR1, itR2, itE, shL, itZ, itV, forS, evD, methL, appL, clrL, popL, insL, trL, extL, setixS, argS, argSs, callI, callN, hereA, nextA, negE, itS, wipeR, yesT, seqD, listC, tupC, numd, zipd, nxS, frSl, retSl, retSls, retOk, retOks, tryAsS, tryOnlyS, lookB, kinE, xfE, lookF, frzE, isTR, isTB, allC, blsD, gU, raiseIS, at0, at1, at2, at3, lrE, sortC, intC, intsD, slE, intO, cutD, eqXR, slX, addT, repT, inR, cmpO, heldR, appT, lrE, sortC, intC, intsD, slE, intO, cutD, eqXR, slX, addT, repT, compX, compDx, neYR, lrevE, sumC]
      exact h
  · exact h.elim
end VS
set_option Elab.async false
set_option linter.all false
set_option maxRecDepth 100000
set_option maxHeartbeats 4000000
namespace VS
open PySem PySem.Spec PyProof.Rows
open L2 (V Hp Cx WX)
def topS (i : Nat) : Stmt := PySem.Challenge.pw_knockwright_k85_whole_clumps_gone_on.main.body.getD i (.Pass ⟨0, 0, 0, 0⟩)
theorem sc__law_cell : L2.FnScope ["_law_script", "_law_k"] ["_law_script", "_law_k"] (L2.defScope (topS 35)) := ⟨rfl, rfl, rfl, by decide +kernel, rfl, by decide +kernel, by decide +kernel⟩
theorem ok__law_cell {P : Program} {w : World} {K : PySem.W.Frag} {mg : Str → Option Value} {base : Heap} (a__law_cell : At K mg "_law_cell" "_law_cell" (topS 35) ["_law_script", "_law_k"]) (z_len : mg "len" = none) :
  DefR P w K mg base 1 "_law_cell" ["_law_script", "_law_k"] [false, false] (defF [false, false] 2 sf__law_cell) :=
  DefR.mk' (k := 0) a__law_cell sc__law_cell rfl (by decide) (fun f cdv A outer s H E Z H0 io zd zi s0 hr =>
    ((sjs_cons (sj_if (tj_lt (ej_v (L2.pv 1)) (ej_callB L2.call_len lenC_mono (lenC_says rfl) (by rfl) z_len (by decide +kernel) (aj_cons (ej_v (L2.pv 0)) aj_nil))) (sjs_one (sj_ret (ej_ix rfl (fun _ _ => rfl) (ej_v (L2.pv 0)) (ej_v (L2.pv 1))))) sjs_nil)
    (sjs_one (sj_ret (ej_add rfl (ej_mul ej_int (ej_v (L2.pv 1))) ej_int)))))
    )
theorem sc__law_mix : L2.FnScope ["_law_cell_here", "_law_k", "_law_number"] ["_law_cell_here", "_law_k"] (L2.defScope (topS 36)) := ⟨rfl, rfl, rfl, by decide +kernel, rfl, by decide +kernel, by decide +kernel⟩
theorem ok__law_mix {P : Program} {w : World} {K : PySem.W.Frag} {mg : Str → Option Value} {base : Heap} (a__law_mix : At K mg "_law_mix" "_law_mix" (topS 36) ["_law_cell_here", "_law_k"]) :
  DefR P w K mg base 1 "_law_mix" ["_law_cell_here", "_law_k"] [false, false] (defF [false, false] 3 sf__law_mix) :=
  DefR.mk' (k := 0) a__law_mix sc__law_mix rfl (by decide) (fun f cdv A outer s H E Z H0 io zd zi s0 hr =>
    ((sjs_cons (sj_set (i := 2) (fz := true) (ej_add rfl (ej_mul (ej_add rfl (ej_v (L2.pv 0)) ej_int) ej_int) (ej_mul ej_int (ej_v (L2.pv 1)))) (nm rfl) sc__law_mix.nd rfl (.inl rfl))
    (sjs_cons (sj_set (i := 2) (fz := true) (ej_add rfl (ej_mod (ej_mul (ej_v (L2.pv 2)) (ej_v (L2.pv 2))) ej_int) (ej_v (L2.pv 1))) (nm rfl) sc__law_mix.nd rfl (.inl rfl))
    (sjs_one (sj_ret (ej_mod (ej_mul (ej_v (L2.pv 2)) (ej_add rfl (ej_v (L2.pv 2)) ej_int)) ej_int))))))
    )
theorem sc__law_box : L2.FnScope ["_law_script", "_law_k", "_law_here", "_law_number", "_law_j"] ["_law_script", "_law_k"] (L2.defScope (topS 37)) := ⟨rfl, rfl, rfl, by decide +kernel, rfl, by decide +kernel, by decide +kernel⟩
theorem ok__law_box {P : Program} {w : World} {K : PySem.W.Frag} {mg : Str → Option Value} {base : Heap} (a__law_box : At K mg "_law_box" "_law_box" (topS 37) ["_law_script", "_law_k"]) (d__law_cell : Def P w K mg base 1 "_law_cell" ["_law_script", "_law_k"] [false, false] F__law_cell) (d__law_mix : Def P w K mg base 1 "_law_mix" ["_law_cell_here", "_law_k"] [false, false] F__law_mix) (z_range : mg "range" = none) :
  DefR P w K mg base 2 "_law_box" ["_law_script", "_law_k"] [false, false] (defF [false, false] 5 sf__law_box) :=
  DefR.mk' (k := 1) a__law_box sc__law_box rfl (by decide) (fun f cdv A outer s H E Z H0 io zd zi s0 hr =>
    ((sjs_cons (sj_set (i := 2) (fz := true) (ej_call d__law_cell (by decide) rfl rfl hr (by decide) (by rfl) (L2.takes_of rfl rfl rfl rfl) (aj_cons (ej_v (L2.pv 0)) (aj_cons (ej_v (L2.pv 1)) aj_nil))) (nm rfl) sc__law_box.nd rfl (.inl rfl))
    (sjs_cons (sj_if (tj_eq rfl (u128 hr) (ej_mod (ej_v (L2.pv 2)) ej_int) ej_int) (sjs_one (sj_ret (ej_lst (aj_cons (ej_fdiv (ej_v (L2.pv 2)) ej_int) aj_nil)))) sjs_nil)
    (sjs_cons (sj_set (i := 3) (fz := true) ej_int (nm rfl) sc__law_box.nd rfl (.inl rfl))
    (sjs_cons (sj_for (L2.passes_of rfl) rfl (ij_range1 (by rfl) z_range (aj_cons ej_int aj_nil)) (gj_name (nm rfl) sc__law_box.nd rfl (.inl rfl)) (sjs_one (sj_set (i := 3) (fz := true) (ej_add rfl (ej_mul (ej_v (L2.pv 3)) ej_int) (ej_call d__law_mix (by decide) rfl rfl hr (by decide) (by rfl) (L2.takes_of rfl rfl rfl rfl) (aj_cons (ej_v (L2.pv 2)) (aj_cons (ej_v (L2.pv 4)) aj_nil)))) (nm rfl) sc__law_box.nd rfl (.inl rfl))))
    (sjs_one (sj_ret (ej_lst (aj_cons (ej_v (L2.pv 3)) aj_nil)))))))))
    )
theorem sc__law_fit : L2.FnScope ["_law_top", "_law_bottom", "_law_one", "_law_other"] ["_law_top", "_law_bottom"] (L2.defScope (topS 39)) := ⟨rfl, rfl, rfl, by decide +kernel, rfl, by decide +kernel, by decide +kernel⟩
theorem ok__law_fit {P : Program} {w : World} {K : PySem.W.Frag} {mg : Str → Option Value} {base : Heap} (a__law_fit : At K mg "_law_fit" "_law_fit" (topS 39) ["_law_top", "_law_bottom"]) (z_abs : mg "abs" = none) :
  DefR P w K mg base 1 "_law_fit" ["_law_top", "_law_bottom"] [false, false] (defF [false, false] 4 sf__law_fit) :=
  DefR.mk' (k := 0) a__law_fit sc__law_fit rfl (by decide) (fun f cdv A outer s H E Z H0 io zd zi s0 hr =>
    ((sjs_cons (sj_par (i := 2) (j := 3) (nm rfl) (nm rfl) rfl sc__law_fit.nd rfl rfl (by decide) rfl rfl (aj_cons (ej_callB L2.call_abs absC_mono absC_says (by rfl) z_abs (by decide +kernel) (aj_cons (ej_v (L2.pv 0)) aj_nil)) (aj_cons (ej_callB L2.call_abs absC_mono absC_says (by rfl) z_abs (by decide +kernel) (aj_cons (ej_v (L2.pv 1)) aj_nil)) aj_nil)) rfl)
    (sjs_cons (sj_while (L2.passes_of rfl) (tj_gt (ej_v (L2.pv 3)) ej_int) (sjs_one (sj_par (i := 2) (j := 3) (nm rfl) (nm rfl) rfl sc__law_fit.nd rfl rfl (by decide) rfl rfl (aj_cons (ej_v (L2.pv 3)) (aj_cons (ej_mod (ej_v (L2.pv 2)) (ej_v (L2.pv 3))) aj_nil)) rfl)))
    (sjs_cons (sj_if (tj_lt (ej_v (L2.pv 1)) ej_int) (sjs_one (sj_set (i := 2) (fz := true) (ej_sub ej_int (ej_v (L2.pv 2))) (nm rfl) sc__law_fit.nd rfl (.inl rfl))) sjs_nil)
    (sjs_one (sj_ret (ej_tup (aj_cons (ej_fdiv (ej_v (L2.pv 0)) (ej_v (L2.pv 2))) (aj_cons (ej_fdiv (ej_v (L2.pv 1)) (ej_v (L2.pv 2))) aj_nil)) rfl)))))))
    )
theorem sc__law_take : L2.FnScope ["_law_box_here", "_law_many", "_law_left", "_law_digit"] ["_law_box_here", "_law_many"] (L2.defScope (topS 38)) := ⟨rfl, rfl, rfl, by decide +kernel, rfl, by decide +kernel, by decide +kernel⟩
theorem ok__law_take {P : Program} {w : World} {K : PySem.W.Frag} {mg : Str → Option Value} {base : Heap} (a__law_take : At K mg "_law_take" "_law_take" (topS 38) ["_law_box_here", "_law_many"]) (z_divmod : mg "divmod" = none) :
  DefR P w K mg base 1 "_law_take" ["_law_box_here", "_law_many"] [true, false] (defF [true, false] 4 sf__law_take) :=
  DefR.mk' (k := 0) a__law_take sc__law_take rfl (by decide) (fun f cdv A outer s H E Z H0 io zd zi s0 hr =>
    ((sjs_cons (sj_asg (ej_callB call_divmodV divmodC_mono divmodC_says (by rfl) z_divmod (by decide +kernel) (aj_cons (ej_ix rfl (fun _ _ => rfl) (ej_r (L2.pv 0)) ej_int) (aj_cons (ej_v (L2.pv 1)) aj_nil))) (gj_tup rfl rfl (gjs_cons (gj_name (nm rfl) sc__law_take.nd rfl (.inl rfl)) (gjs_cons (gj_name (nm rfl) sc__law_take.nd rfl (.inl rfl)) gjs_nil))))
    (sjs_cons (sj_setix (i := 0) (L2.pv 0) (ej_v (L2.pv 2)) ej_int)
    (sjs_one (sj_ret (ej_v (L2.pv 3)))))))
    )
theorem sc__law_small : L2.FnScope ["_law_box_here"] ["_law_box_here"] (L2.defScope (topS 44)) := ⟨rfl, rfl, rfl, by decide +kernel, rfl, by decide +kernel, by decide +kernel⟩
theorem ok__law_small {P : Program} {w : World} {K : PySem.W.Frag} {mg : Str → Option Value} {base : Heap} (a__law_small : At K mg "_law_small" "_law_small" (topS 44) ["_law_box_here"]) (d__law_fit : Def P w K mg base 1 "_law_fit" ["_law_top", "_law_bottom"] [false, false] F__law_fit) (d__law_take : Def P w K mg base 1 "_law_take" ["_law_box_here", "_law_many"] [true, false] F__law_take) :
  DefR P w K mg base 2 "_law_small" ["_law_box_here"] [true] (defF [true] 1 sf__law_small) :=
  DefR.mk' (k := 1) a__law_small sc__law_small rfl (by decide) (fun f cdv A outer s H E Z H0 io zd zi s0 hr =>
    ((sjs_one (sj_ret (ej_call d__law_fit (by decide) rfl rfl hr (by decide) (by rfl) (L2.takes_of rfl rfl rfl rfl) (aj_cons (ej_sub (ej_callI (i := 0) (kk := 0) (mm := 1) d__law_take rfl rfl rfl hr (by decide) (by rfl) (L2.takes_of rfl rfl rfl rfl) (aji_here (L2.pv 0) (aj_cons ej_int aj_nil))) ej_int) (aj_cons (ej_ix rfl (fun _ _ => rfl) (ej_lst (aj_cons ej_int (aj_cons ej_int (aj_cons ej_int (aj_cons ej_int aj_nil))))) (ej_callI (i := 0) (kk := 0) (mm := 1) d__law_take rfl rfl rfl hr (by decide) (by rfl) (L2.takes_of rfl rfl rfl rfl) (aji_here (L2.pv 0) (aj_cons ej_int aj_nil)))) aj_nil))))))
    )
theorem sc__law_plus : L2.FnScope ["_law_one", "_law_other"] ["_law_one", "_law_other"] (L2.defScope (topS 40)) := ⟨rfl, rfl, rfl, by decide +kernel, rfl, by decide +kernel, by decide +kernel⟩
theorem ok__law_plus {P : Program} {w : World} {K : PySem.W.Frag} {mg : Str → Option Value} {base : Heap} (a__law_plus : At K mg "_law_plus" "_law_plus" (topS 40) ["_law_one", "_law_other"]) (d__law_fit : Def P w K mg base 1 "_law_fit" ["_law_top", "_law_bottom"] [false, false] F__law_fit) :
  DefR P w K mg base 2 "_law_plus" ["_law_one", "_law_other"] [false, false] (defF [false, false] 2 sf__law_plus) :=
  DefR.mk' (k := 1) a__law_plus sc__law_plus rfl (by decide) (fun f cdv A outer s H E Z H0 io zd zi s0 hr =>
    ((sjs_one (sj_ret (ej_call d__law_fit (by decide) rfl rfl hr (by decide) (by rfl) (L2.takes_of rfl rfl rfl rfl) (aj_cons (ej_add rfl (ej_mul (ej_ix rfl (fun _ _ => rfl) (ej_v (L2.pv 0)) ej_int) (ej_ix rfl (fun _ _ => rfl) (ej_v (L2.pv 1)) ej_int)) (ej_mul (ej_ix rfl (fun _ _ => rfl) (ej_v (L2.pv 1)) ej_int) (ej_ix rfl (fun _ _ => rfl) (ej_v (L2.pv 0)) ej_int))) (aj_cons (ej_mul (ej_ix rfl (fun _ _ => rfl) (ej_v (L2.pv 0)) ej_int) (ej_ix rfl (fun _ _ => rfl) (ej_v (L2.pv 1)) ej_int)) aj_nil))))))
    )
theorem sc__law_minus : L2.FnScope ["_law_one", "_law_other"] ["_law_one", "_law_other"] (L2.defScope (topS 41)) := ⟨rfl, rfl, rfl, by decide +kernel, rfl, by decide +kernel, by decide +kernel⟩
theorem ok__law_minus {P : Program} {w : World} {K : PySem.W.Frag} {mg : Str → Option Value} {base : Heap} (a__law_minus : At K mg "_law_minus" "_law_minus" (topS 41) ["_law_one", "_law_other"]) (d__law_fit : Def P w K mg base 1 "_law_fit" ["_law_top", "_law_bottom"] [false, false] F__law_fit) :
  DefR P w K mg base 2 "_law_minus" ["_law_one", "_law_other"] [false, false] (defF [false, false] 2 sf__law_minus) :=
  DefR.mk' (k := 1) a__law_minus sc__law_minus rfl (by decide) (fun f cdv A outer s H E Z H0 io zd zi s0 hr =>
    ((sjs_one (sj_ret (ej_call d__law_fit (by decide) rfl rfl hr (by decide) (by rfl) (L2.takes_of rfl rfl rfl rfl) (aj_cons (ej_sub (ej_mul (ej_ix rfl (fun _ _ => rfl) (ej_v (L2.pv 0)) ej_int) (ej_ix rfl (fun _ _ => rfl) (ej_v (L2.pv 1)) ej_int)) (ej_mul (ej_ix rfl (fun _ _ => rfl) (ej_v (L2.pv 1)) ej_int) (ej_ix rfl (fun _ _ => rfl) (ej_v (L2.pv 0)) ej_int))) (aj_cons (ej_mul (ej_ix rfl (fun _ _ => rfl) (ej_v (L2.pv 0)) ej_int) (ej_ix rfl (fun _ _ => rfl) (ej_v (L2.pv 1)) ej_int)) aj_nil))))))
    )
theorem sc__law_over : L2.FnScope ["_law_one", "_law_other"] ["_law_one", "_law_other"] (L2.defScope (topS 43)) := ⟨rfl, rfl, rfl, by decide +kernel, rfl, by decide +kernel, by decide +kernel⟩
theorem ok__law_over {P : Program} {w : World} {K : PySem.W.Frag} {mg : Str → Option Value} {base : Heap} (a__law_over : At K mg "_law_over" "_law_over" (topS 43) ["_law_one", "_law_other"]) (d__law_fit : Def P w K mg base 1 "_law_fit" ["_law_top", "_law_bottom"] [false, false] F__law_fit) :
  DefR P w K mg base 2 "_law_over" ["_law_one", "_law_other"] [false, false] (defF [false, false] 2 sf__law_over) :=
  DefR.mk' (k := 1) a__law_over sc__law_over rfl (by decide) (fun f cdv A outer s H E Z H0 io zd zi s0 hr =>
    ((sjs_one (sj_ret (ej_call d__law_fit (by decide) rfl rfl hr (by decide) (by rfl) (L2.takes_of rfl rfl rfl rfl) (aj_cons (ej_mul (ej_ix rfl (fun _ _ => rfl) (ej_v (L2.pv 0)) ej_int) (ej_ix rfl (fun _ _ => rfl) (ej_v (L2.pv 1)) ej_int)) (aj_cons (ej_mul (ej_ix rfl (fun _ _ => rfl) (ej_v (L2.pv 0)) ej_int) (ej_ix rfl (fun _ _ => rfl) (ej_v (L2.pv 1)) ej_int)) aj_nil))))))
    )
theorem sc__law_led_together : L2.FnScope ["_law_box_here", "_law_world_here", "_law_at", "_law_many", "_law_moment", "_law_meet", "_law_found", "_law_number", "_law_body", "_law_way"] ["_law_box_here", "_law_world_here"] (L2.defScope (topS 46)) := ⟨rfl, rfl, rfl, by decide +kernel, rfl, by decide +kernel, by decide +kernel⟩
theorem ok__law_led_together {P : Program} {w : World} {K : PySem.W.Frag} {mg : Str → Option Value} {base : Heap} (a__law_led_together : At K mg "_law_led_together" "_law_led_together" (topS 46) ["_law_box_here", "_law_world_here"]) (d__law_take : Def P w K mg base 1 "_law_take" ["_law_box_here", "_law_many"] [true, false] F__law_take) (d__law_fit : Def P w K mg base 1 "_law_fit" ["_law_top", "_law_bottom"] [false, false] F__law_fit) (d__law_plus : Def P w K mg base 2 "_law_plus" ["_law_one", "_law_other"] [false, false] F__law_plus) (d__law_small : Def P w K mg base 2 "_law_small" ["_law_box_here"] [true] F__law_small) (d__law_minus : Def P w K mg base 2 "_law_minus" ["_law_one", "_law_other"] [false, false] F__law_minus) (d__law_over : Def P w K mg base 2 "_law_over" ["_law_one", "_law_other"] [false, false] F__law_over) (z_enumerate : mg "enumerate" = none) (z_len : mg "len" = none) :
  DefR P w K mg base 3 "_law_led_together" ["_law_box_here", "_law_world_here"] [true, false] (defF [true, false] 10 sf__law_led_together) :=
  DefR.mk' (k := 2) a__law_led_together sc__law_led_together rfl (by decide) (fun f cdv A outer s H E Z H0 io zd zi s0 hr =>
    ((sjs_cons (sj_set (i := 2) (fz := true) (ej_callI (i := 0) (kk := 0) (mm := 1) d__law_take rfl rfl rfl hr (by decide) (by rfl) (L2.takes_of rfl rfl rfl rfl) (aji_here (L2.pv 0) (aj_cons (ej_callB L2.call_len lenC_mono (lenC_says rfl) (by rfl) z_len (by decide +kernel) (aj_cons (ej_v (L2.pv 1)) aj_nil)) aj_nil))) (nm rfl) sc__law_led_together.nd rfl (.inl rfl))
    (sjs_cons (sj_set (i := 3) (fz := true) (ej_add rfl ej_int (ej_callI (i := 0) (kk := 0) (mm := 1) d__law_take rfl rfl rfl hr (by decide) (by rfl) (L2.takes_of rfl rfl rfl rfl) (aji_here (L2.pv 0) (aj_cons ej_int aj_nil)))) (nm rfl) sc__law_led_together.nd rfl (.inl rfl))
    (sjs_cons (sj_set (i := 4) (fz := true) (ej_call d__law_fit (by decide) rfl rfl hr (by decide) (by rfl) (L2.takes_of rfl rfl rfl rfl) (aj_cons (ej_add rfl ej_int (ej_callI (i := 0) (kk := 0) (mm := 1) d__law_take rfl rfl rfl hr (by decide) (by rfl) (L2.takes_of rfl rfl rfl rfl) (aji_here (L2.pv 0) (aj_cons ej_int aj_nil)))) (aj_cons (ej_add rfl ej_int (ej_callI (i := 0) (kk := 0) (mm := 1) d__law_take rfl rfl rfl hr (by decide) (by rfl) (L2.takes_of rfl rfl rfl rfl) (aji_here (L2.pv 0) (aj_cons ej_int aj_nil)))) aj_nil))) (nm rfl) sc__law_led_together.nd rfl (.inl rfl))
    (sjs_cons (sj_set (i := 5) (fz := true) (ej_call d__law_plus (by decide) rfl rfl hr (by decide) (by rfl) (L2.takes_of rfl rfl rfl rfl) (aj_cons (ej_ix rfl (fun _ _ => rfl) (ej_ix rfl (fun _ _ => rfl) (ej_v (L2.pv 1)) (ej_v (L2.pv 2))) ej_int) (aj_cons (ej_callI (i := 0) (kk := 0) (mm := 0) d__law_small rfl rfl rfl hr (by decide) (by rfl) (L2.takes_of rfl rfl rfl rfl) (aji_here (L2.pv 0) aj_nil)) aj_nil))) (nm rfl) sc__law_led_together.nd rfl (.inl rfl))
    (sjs_cons (sj_set (i := 6) (fz := false) (ej_lst aj_nil) (nm rfl) sc__law_led_together.nd rfl (.inl rfl))
    (sjs_cons (sj_for (L2.passes_of rfl) rfl (ij_enum rfl (by rfl) z_enumerate (aj_cons (ej_v (L2.pv 1)) aj_nil)) (gj_tup rfl rfl (gjs_cons (gj_name (nm rfl) sc__law_led_together.nd rfl (.inl rfl)) (gjs_cons (gj_name (nm rfl) sc__law_led_together.nd rfl (.inl rfl)) gjs_nil))) (sjs_cons (sj_if (tj_chain L2.op_le L2.op_lt (ej_v (L2.pv 2)) (ej_v (L2.pv 7)) (ej_add rfl (ej_v (L2.pv 2)) (ej_v (L2.pv 3)))) (sjs_cons (sj_set (i := 9) (fz := true) (ej_call d__law_minus (by decide) rfl rfl hr (by decide) (by rfl) (L2.takes_of rfl rfl rfl rfl) (aj_cons (ej_v (L2.pv 5)) (aj_cons (ej_ix rfl (fun _ _ => rfl) (ej_v (L2.pv 8)) ej_int) aj_nil))) (nm rfl) sc__law_led_together.nd rfl (.inl rfl))
    (sjs_one (sj_set (i := 8) (fz := true) (ej_tup (aj_cons (ej_ix rfl (fun _ _ => rfl) (ej_v (L2.pv 8)) ej_int) (aj_cons (ej_call d__law_over (by decide) rfl rfl hr (by decide) (by rfl) (L2.takes_of rfl rfl rfl rfl) (aj_cons (ej_v (L2.pv 9)) (aj_cons (ej_v (L2.pv 4)) aj_nil))) (aj_cons (ej_ix rfl (fun _ _ => rfl) (ej_v (L2.pv 8)) ej_int) aj_nil))) rfl) (nm rfl) sc__law_led_together.nd rfl (.inl rfl)))) sjs_nil)
    (sjs_one (sj_expr (ej_append rfl (L2.pv 6) (aj_cons (ej_v (L2.pv 8)) aj_nil))))))
    (sjs_one (sj_ret (ej_m (L2.pv 6)))))))))))
    )
theorem sc__law_world : L2.FnScope ["_law_box_here", "_law_place", "_law_found", "_law_k", "_law_weight"] ["_law_box_here"] (L2.defScope (topS 45)) := ⟨rfl, rfl, rfl, by decide +kernel, rfl, by decide +kernel, by decide +kernel⟩
theorem ok__law_world {P : Program} {w : World} {K : PySem.W.Frag} {mg : Str → Option Value} {base : Heap} (a__law_world : At K mg "_law_world" "_law_world" (topS 45) ["_law_box_here"]) (d__law_small : Def P w K mg base 2 "_law_small" ["_law_box_here"] [true] F__law_small) (d__law_take : Def P w K mg base 1 "_law_take" ["_law_box_here", "_law_many"] [true, false] F__law_take) (d__law_plus : Def P w K mg base 2 "_law_plus" ["_law_one", "_law_other"] [false, false] F__law_plus) (d__law_fit : Def P w K mg base 1 "_law_fit" ["_law_top", "_law_bottom"] [false, false] F__law_fit) (d__law_led_together : Def P w K mg base 3 "_law_led_together" ["_law_box_here", "_law_world_here"] [true, false] F__law_led_together) (z_range : mg "range" = none) :
  DefR P w K mg base 4 "_law_world" ["_law_box_here"] [true] (defF [true] 5 sf__law_world) :=
  DefR.mk' (k := 3) a__law_world sc__law_world rfl (by decide) (fun f cdv A outer s H E Z H0 io zd zi s0 hr =>
    ((sjs_cons (sj_set (i := 1) (fz := true) (ej_callI (i := 0) (kk := 0) (mm := 0) d__law_small rfl rfl rfl hr (by decide) (by rfl) (L2.takes_of rfl rfl rfl rfl) (aji_here (L2.pv 0) aj_nil)) (nm rfl) sc__law_world.nd rfl (.inl rfl))
    (sjs_cons (sj_set (i := 2) (fz := false) (ej_lst aj_nil) (nm rfl) sc__law_world.nd rfl (.inl rfl))
    (sjs_cons (sj_for (L2.passes_of rfl) rfl (ij_range1 (by rfl) z_range (aj_cons (ej_add rfl ej_int (ej_callI (i := 0) (kk := 0) (mm := 1) d__law_take rfl rfl rfl hr (by decide) (by rfl) (L2.takes_of rfl rfl rfl rfl) (aji_here (L2.pv 0) (aj_cons (ej_ix rfl (fun _ _ => rfl) (ej_lst (aj_cons ej_int (aj_cons ej_int (aj_cons ej_int (aj_cons ej_int aj_nil))))) (ej_callI (i := 0) (kk := 0) (mm := 1) d__law_take rfl rfl rfl hr (by decide) (by rfl) (L2.takes_of rfl rfl rfl rfl) (aji_here (L2.pv 0) (aj_cons ej_int aj_nil)))) aj_nil)))) aj_nil)) (gj_name (nm rfl) sc__law_world.nd rfl (.inl rfl)) (sjs_cons (sj_set (i := 4) (fz := true) (ej_add rfl ej_int (ej_callI (i := 0) (kk := 0) (mm := 1) d__law_take rfl rfl rfl hr (by decide) (by rfl) (L2.takes_of rfl rfl rfl rfl) (aji_here (L2.pv 0) (aj_cons (ej_ix rfl (fun _ _ => rfl) (ej_lst (aj_cons ej_int (aj_cons ej_int (aj_cons ej_int (aj_cons ej_int aj_nil))))) (ej_callI (i := 0) (kk := 0) (mm := 1) d__law_take rfl rfl rfl hr (by decide) (by rfl) (L2.takes_of rfl rfl rfl rfl) (aji_here (L2.pv 0) (aj_cons ej_int aj_nil)))) aj_nil)))) (nm rfl) sc__law_world.nd rfl (.inl rfl))
    (sjs_cons (sj_expr (ej_append rfl (L2.pv 2) (aj_cons (ej_tup (aj_cons (ej_v (L2.pv 1)) (aj_cons (ej_callI (i := 0) (kk := 0) (mm := 0) d__law_small rfl rfl rfl hr (by decide) (by rfl) (L2.takes_of rfl rfl rfl rfl) (aji_here (L2.pv 0) aj_nil)) (aj_cons (ej_v (L2.pv 4)) aj_nil))) rfl) aj_nil)))
    (sjs_one (sj_set (i := 1) (fz := true) (ej_call d__law_plus (by decide) rfl rfl hr (by decide) (by rfl) (L2.takes_of rfl rfl rfl rfl) (aj_cons (ej_v (L2.pv 1)) (aj_cons (ej_call d__law_fit (by decide) rfl rfl hr (by decide) (by rfl) (L2.takes_of rfl rfl rfl rfl) (aj_cons (ej_add rfl ej_int (ej_callI (i := 0) (kk := 0) (mm := 1) d__law_take rfl rfl rfl hr (by decide) (by rfl) (L2.takes_of rfl rfl rfl rfl) (aji_here (L2.pv 0) (aj_cons ej_int aj_nil)))) (aj_cons (ej_add rfl ej_int (ej_callI (i := 0) (kk := 0) (mm := 1) d__law_take rfl rfl rfl hr (by decide) (by rfl) (L2.takes_of rfl rfl rfl rfl) (aji_here (L2.pv 0) (aj_cons ej_int aj_nil)))) aj_nil))) aj_nil))) (nm rfl) sc__law_world.nd rfl (.inl rfl))))))
    (sjs_cons (sj_if (tj_eq rfl (u128 hr) (ej_callI (i := 0) (kk := 0) (mm := 1) d__law_take rfl rfl rfl hr (by decide) (by rfl) (L2.takes_of rfl rfl rfl rfl) (aji_here (L2.pv 0) (aj_cons ej_int aj_nil))) ej_int) (sjs_one (sj_set (i := 2) (fz := false) (ej_callI (i := 0) (kk := 0) (mm := 1) d__law_led_together rfl rfl rfl hr (by decide) (by rfl) (L2.takes_of rfl rfl rfl rfl) (aji_here (L2.pv 0) (aj_cons (ej_f (L2.pv 2)) aj_nil))) (nm rfl) sc__law_world.nd rfl (.inl rfl))) sjs_nil)
    (sjs_one (sj_ret (ej_m (L2.pv 2)))))))))
    )
theorem sc_first_clumps : L2.FnScope ["world", "number", "body"] ["world"] (L2.defScope (topS 25)) := ⟨rfl, rfl, rfl, by decide +kernel, rfl, by decide +kernel, by decide +kernel⟩
theorem ok_first_clumps {P : Program} {w : World} {K : PySem.W.Frag} {mg : Str → Option Value} {base : Heap} (a_first_clumps : At K mg "first_clumps" "first_clumps" (topS 25) ["world"]) (z_enumerate : mg "enumerate" = none) :
  DefR P w K mg base 1 "first_clumps" ["world"] [false] (defF [false] 3 sf_first_clumps) :=
  DefR.mk' (k := 0) a_first_clumps sc_first_clumps rfl (by decide) (fun f cdv A outer s H E Z H0 io zd zi s0 hr =>
    ((sjs_one (sj_ret (ej_lc (own := [("number", 1), ("body", 2)]) rfl sc_first_clumps.nd (by first | (simp; done) | (simp [frB, frOf, maskAt]; done)) (ij_enum rfl (by rfl) z_enumerate (aj_cons (ej_v (L2.pv 0)) aj_nil)) (blk_ok (N := ["world", "number", "body"]) (sc := L2.defScope (topS 25)) rfl rfl (by decide +kernel)) (fun _ _ _ _ _ => (gw_tup rfl rfl (gws_cons (gw_name (by simp) (nm rfl) sc_first_clumps.nd rfl (.inl rfl) (.inr rfl)) (gws_cons (gw_name (by simp) (nm rfl) sc_first_clumps.nd rfl (.inl rfl) (.inr rfl)) gws_nil)))) (fun _ _ _ _ _ => tjs_nil) (fun _ _ _ _ _ => (ej_tup (aj_cons (ej_v (L2.pv 1)) (aj_cons (ej_v (L2.pv 1)) (aj_cons (ej_ix rfl (fun _ _ => rfl) (ej_v (L2.pv 2)) ej_int) (aj_cons (ej_ix rfl (fun _ _ => rfl) (ej_v (L2.pv 2)) ej_int) (aj_cons (ej_ix rfl (fun _ _ => rfl) (ej_v (L2.pv 2)) ej_int) aj_nil))))) rfl))))))
    )
theorem sc_under : L2.FnScope ["one", "other"] ["one", "other"] (L2.defScope (topS 14)) := ⟨rfl, rfl, rfl, by decide +kernel, rfl, by decide +kernel, by decide +kernel⟩
theorem ok_under {P : Program} {w : World} {K : PySem.W.Frag} {mg : Str → Option Value} {base : Heap} (a_under : At K mg "under" "under" (topS 14) ["one", "other"]) :
  DefR P w K mg base 1 "under" ["one", "other"] [false, false] (defF [false, false] 2 sf_under) :=
  DefR.mk' (k := 0) a_under sc_under rfl (by decide) (fun f cdv A outer s H E Z H0 io zd zi s0 hr =>
    ((sjs_one (sj_ret (ej_lt (ej_mul (ej_ix rfl (fun _ _ => rfl) (ej_v (L2.pv 0)) ej_int) (ej_ix rfl (fun _ _ => rfl) (ej_v (L2.pv 1)) ej_int)) (ej_mul (ej_ix rfl (fun _ _ => rfl) (ej_v (L2.pv 1)) ej_int) (ej_ix rfl (fun _ _ => rfl) (ej_v (L2.pv 0)) ej_int))))))
    )
theorem sc_least_of : L2.FnScope ["some", "least", "one"] ["some"] (L2.defScope (topS 17)) := ⟨rfl, rfl, rfl, by decide +kernel, rfl, by decide +kernel, by decide +kernel⟩
theorem ok_least_of {P : Program} {w : World} {K : PySem.W.Frag} {mg : Str → Option Value} {base : Heap} (a_least_of : At K mg "least_of" "least_of" (topS 17) ["some"]) (d_under : Def P w K mg base 1 "under" ["one", "other"] [false, false] F_under) :
  DefR P w K mg base 2 "least_of" ["some"] [false] (defF [false] 3 sf_least_of) :=
  DefR.mk' (k := 1) a_least_of sc_least_of rfl (by decide) (fun f cdv A outer s H E Z H0 io zd zi s0 hr =>
    ((sjs_cons (sj_set (i := 1) (fz := true) ej_non (nm rfl) sc_least_of.nd rfl (.inl rfl))
    (sjs_cons (sj_for (L2.passes_of rfl) rfl (ij_seq rfl (ej_v (L2.pv 0))) (gj_name (nm rfl) sc_least_of.nd rfl (.inl rfl)) (sjs_one (sj_if ((wj_or (tj_is (ej_v (L2.pv 1)) ej_non) (wj_or1 (tj_val (ej_call d_under (by decide) rfl rfl hr (by decide) (by rfl) (L2.takes_of rfl rfl rfl rfl) (aj_cons (ej_v (L2.pv 2)) (aj_cons (ej_v (L2.pv 1)) aj_nil))))))).tj (sjs_one (sj_set (i := 1) (fz := true) (ej_v (L2.pv 2)) (nm rfl) sc_least_of.nd rfl (.inl rfl))) sjs_nil)))
    (sjs_one (sj_ret (ej_v (L2.pv 1)))))))
    )
theorem sc_divisor : L2.FnScope ["one", "other"] ["one", "other"] (L2.defScope (topS 8)) := ⟨rfl, rfl, rfl, by decide +kernel, rfl, by decide +kernel, by decide +kernel⟩
theorem ok_divisor {P : Program} {w : World} {K : PySem.W.Frag} {mg : Str → Option Value} {base : Heap} (a_divisor : At K mg "divisor" "divisor" (topS 8) ["one", "other"]) :
  DefR P w K mg base 1 "divisor" ["one", "other"] [false, false] (defF [false, false] 2 sf_divisor) :=
  DefR.mk' (k := 0) a_divisor sc_divisor rfl (by decide) (fun f cdv A outer s H E Z H0 io zd zi s0 hr =>
    ((sjs_cons (sj_while (L2.passes_of rfl) (tj_gt (ej_v (L2.pv 1)) ej_int) (sjs_one (sj_par (i := 0) (j := 1) (nm rfl) (nm rfl) rfl sc_divisor.nd rfl rfl (by decide) rfl rfl (aj_cons (ej_v (L2.pv 1)) (aj_cons (ej_mod (ej_v (L2.pv 0)) (ej_v (L2.pv 1))) aj_nil)) rfl)))
    (sjs_one (sj_ret (ej_v (L2.pv 0))))))
    )
theorem sc_size_of : L2.FnScope ["number"] ["number"] (L2.defScope (topS 7)) := ⟨rfl, rfl, rfl, by decide +kernel, rfl, by decide +kernel, by decide +kernel⟩
theorem ok_size_of {P : Program} {w : World} {K : PySem.W.Frag} {mg : Str → Option Value} {base : Heap} (a_size_of : At K mg "size_of" "size_of" (topS 7) ["number"]) :
  DefR P w K mg base 1 "size_of" ["number"] [false] (defF [false] 1 sf_size_of) :=
  DefR.mk' (k := 0) a_size_of sc_size_of rfl (by decide) (fun f cdv A outer s H E Z H0 io zd zi s0 hr =>
    ((sjs_cons (sj_if (tj_lt (ej_v (L2.pv 0)) ej_int) (sjs_one (sj_ret (ej_sub ej_int (ej_v (L2.pv 0))))) sjs_nil)
    (sjs_one (sj_ret (ej_v (L2.pv 0))))))
    )
theorem sc_is_whole : L2.FnScope ["thing"] ["thing"] (L2.defScope (topS 6)) := ⟨rfl, rfl, rfl, by decide +kernel, rfl, by decide +kernel, by decide +kernel⟩
theorem ok_is_whole {P : Program} {w : World} {K : PySem.W.Frag} {mg : Str → Option Value} {base : Heap} (a_is_whole : At K mg "is_whole" "is_whole" (topS 6) ["thing"]) (z_bool : mg "bool" = none) (z_int : mg "int" = none) (z_isinstance : mg "isinstance" = none) :
  DefR P w K mg base 1 "is_whole" ["thing"] [false] (defF [false] 1 sf_is_whole) :=
  DefR.mk' (k := 0) a_is_whole sc_is_whole rfl (by decide) (fun f cdv A outer s H E Z H0 io zd zi s0 hr =>
    ((sjs_one (sj_ret (ej_and (ej_callB L2.call_isi isiC_mono (isiC_says rfl kb_ok) (by rfl) z_isinstance (by decide +kernel) (aj_cons (ej_v (L2.pv 0)) (aj_cons (ej_ty (by rfl) z_int (by decide +kernel)) aj_nil))) (ej_one (ej_not (ej_callB L2.call_isi isiC_mono (isiC_says rfl kb_ok) (by rfl) z_isinstance (by decide +kernel) (aj_cons (ej_v (L2.pv 0)) (aj_cons (ej_ty (by rfl) z_bool (by decide +kernel)) aj_nil)))))))))
    )
theorem sc_fraction : L2.FnScope ["top", "bottom", "both"] ["top", "bottom"] (L2.defScope (topS 9)) := ⟨rfl, rfl, rfl, by decide +kernel, rfl, by decide +kernel, by decide +kernel⟩
theorem ok_fraction {P : Program} {w : World} {K : PySem.W.Frag} {mg : Str → Option Value} {base : Heap} (a_fraction : At K mg "fraction" "fraction" (topS 9) ["top", "bottom"]) (d_is_whole : Def P w K mg base 1 "is_whole" ["thing"] [false] F_is_whole) (x_NoNumber : XCls K mg "NoNumber") (d_divisor : Def P w K mg base 1 "divisor" ["one", "other"] [false, false] F_divisor) (d_size_of : Def P w K mg base 1 "size_of" ["number"] [false] F_size_of) :
  DefR P w K mg base 2 "fraction" ["top", "bottom"] [false, false] (defF [false, false] 3 sf_fraction) :=
  DefR.mk' (k := 1) a_fraction sc_fraction rfl (by decide) (fun f cdv A outer s H E Z H0 io zd zi s0 hr =>
    ((sjs_cons (sj_if ((wj_or (tj_not (tj_val (ej_call d_is_whole (by decide) rfl rfl hr (by decide) (by rfl) (L2.takes_of rfl rfl rfl rfl) (aj_cons (ej_v (L2.pv 0)) aj_nil)))) (wj_or (tj_not (tj_val (ej_call d_is_whole (by decide) rfl rfl hr (by decide) (by rfl) (L2.takes_of rfl rfl rfl rfl) (aj_cons (ej_v (L2.pv 1)) aj_nil)))) (wj_or1 (tj_eq rfl (u128 hr) (ej_v (L2.pv 1)) ej_int))))).tj (sjs_one (sj_raise rfl rfl rfl (L2.takes_of rfl rfl rfl rfl) x_NoNumber (by rfl))) sjs_nil)
    (sjs_cons (sj_set (i := 2) (fz := true) (ej_call d_divisor (by decide) rfl rfl hr (by decide) (by rfl) (L2.takes_of rfl rfl rfl rfl) (aj_cons (ej_call d_size_of (by decide) rfl rfl hr (by decide) (by rfl) (L2.takes_of rfl rfl rfl rfl) (aj_cons (ej_v (L2.pv 0)) aj_nil)) (aj_cons (ej_call d_size_of (by decide) rfl rfl hr (by decide) (by rfl) (L2.takes_of rfl rfl rfl rfl) (aj_cons (ej_v (L2.pv 1)) aj_nil)) aj_nil))) (nm rfl) sc_fraction.nd rfl (.inl rfl))
    (sjs_cons (sj_if (tj_lt (ej_v (L2.pv 1)) ej_int) (sjs_one (sj_set (i := 2) (fz := true) (ej_sub ej_int (ej_v (L2.pv 2))) (nm rfl) sc_fraction.nd rfl (.inl rfl))) sjs_nil)
    (sjs_one (sj_ret (ej_tup (aj_cons (ej_fdiv (ej_v (L2.pv 0)) (ej_v (L2.pv 2))) (aj_cons (ej_fdiv (ej_v (L2.pv 1)) (ej_v (L2.pv 2))) aj_nil)) rfl)))))))
    )
theorem sc_plus : L2.FnScope ["one", "other"] ["one", "other"] (L2.defScope (topS 10)) := ⟨rfl, rfl, rfl, by decide +kernel, rfl, by decide +kernel, by decide +kernel⟩
theorem ok_plus {P : Program} {w : World} {K : PySem.W.Frag} {mg : Str → Option Value} {base : Heap} (a_plus : At K mg "plus" "plus" (topS 10) ["one", "other"]) (d_fraction : Def P w K mg base 2 "fraction" ["top", "bottom"] [false, false] F_fraction) :
  DefR P w K mg base 3 "plus" ["one", "other"] [false, false] (defF [false, false] 2 sf_plus) :=
  DefR.mk' (k := 2) a_plus sc_plus rfl (by decide) (fun f cdv A outer s H E Z H0 io zd zi s0 hr =>
    ((sjs_one (sj_ret (ej_call d_fraction (by decide) rfl rfl hr (by decide) (by rfl) (L2.takes_of rfl rfl rfl rfl) (aj_cons (ej_add rfl (ej_mul (ej_ix rfl (fun _ _ => rfl) (ej_v (L2.pv 0)) ej_int) (ej_ix rfl (fun _ _ => rfl) (ej_v (L2.pv 1)) ej_int)) (ej_mul (ej_ix rfl (fun _ _ => rfl) (ej_v (L2.pv 1)) ej_int) (ej_ix rfl (fun _ _ => rfl) (ej_v (L2.pv 0)) ej_int))) (aj_cons (ej_mul (ej_ix rfl (fun _ _ => rfl) (ej_v (L2.pv 0)) ej_int) (ej_ix rfl (fun _ _ => rfl) (ej_v (L2.pv 1)) ej_int)) aj_nil))))))
    )
theorem sc_over : L2.FnScope ["one", "other"] ["one", "other"] (L2.defScope (topS 13)) := ⟨rfl, rfl, rfl, by decide +kernel, rfl, by decide +kernel, by decide +kernel⟩
theorem ok_over {P : Program} {w : World} {K : PySem.W.Frag} {mg : Str → Option Value} {base : Heap} (a_over : At K mg "over" "over" (topS 13) ["one", "other"]) (d_fraction : Def P w K mg base 2 "fraction" ["top", "bottom"] [false, false] F_fraction) :
  DefR P w K mg base 3 "over" ["one", "other"] [false, false] (defF [false, false] 2 sf_over) :=
  DefR.mk' (k := 2) a_over sc_over rfl (by decide) (fun f cdv A outer s H E Z H0 io zd zi s0 hr =>
    ((sjs_one (sj_ret (ej_call d_fraction (by decide) rfl rfl hr (by decide) (by rfl) (L2.takes_of rfl rfl rfl rfl) (aj_cons (ej_mul (ej_ix rfl (fun _ _ => rfl) (ej_v (L2.pv 0)) ej_int) (ej_ix rfl (fun _ _ => rfl) (ej_v (L2.pv 1)) ej_int)) (aj_cons (ej_mul (ej_ix rfl (fun _ _ => rfl) (ej_v (L2.pv 0)) ej_int) (ej_ix rfl (fun _ _ => rfl) (ej_v (L2.pv 1)) ej_int)) aj_nil))))))
    )
theorem sc_minus : L2.FnScope ["one", "other"] ["one", "other"] (L2.defScope (topS 11)) := ⟨rfl, rfl, rfl, by decide +kernel, rfl, by decide +kernel, by decide +kernel⟩
theorem ok_minus {P : Program} {w : World} {K : PySem.W.Frag} {mg : Str → Option Value} {base : Heap} (a_minus : At K mg "minus" "minus" (topS 11) ["one", "other"]) (d_fraction : Def P w K mg base 2 "fraction" ["top", "bottom"] [false, false] F_fraction) :
  DefR P w K mg base 3 "minus" ["one", "other"] [false, false] (defF [false, false] 2 sf_minus) :=
  DefR.mk' (k := 2) a_minus sc_minus rfl (by decide) (fun f cdv A outer s H E Z H0 io zd zi s0 hr =>
    ((sjs_one (sj_ret (ej_call d_fraction (by decide) rfl rfl hr (by decide) (by rfl) (L2.takes_of rfl rfl rfl rfl) (aj_cons (ej_sub (ej_mul (ej_ix rfl (fun _ _ => rfl) (ej_v (L2.pv 0)) ej_int) (ej_ix rfl (fun _ _ => rfl) (ej_v (L2.pv 1)) ej_int)) (ej_mul (ej_ix rfl (fun _ _ => rfl) (ej_v (L2.pv 1)) ej_int) (ej_ix rfl (fun _ _ => rfl) (ej_v (L2.pv 0)) ej_int))) (aj_cons (ej_mul (ej_ix rfl (fun _ _ => rfl) (ej_v (L2.pv 0)) ej_int) (ej_ix rfl (fun _ _ => rfl) (ej_v (L2.pv 1)) ej_int)) aj_nil))))))
    )
theorem sc_time_to : L2.FnScope ["one", "other"] ["one", "other"] (L2.defScope (topS 16)) := ⟨rfl, rfl, rfl, by decide +kernel, rfl, by decide +kernel, by decide +kernel⟩
theorem ok_time_to {P : Program} {w : World} {K : PySem.W.Frag} {mg : Str → Option Value} {base : Heap} (a_time_to : At K mg "time_to" "time_to" (topS 16) ["one", "other"]) (d_under : Def P w K mg base 1 "under" ["one", "other"] [false, false] F_under) (d_over : Def P w K mg base 3 "over" ["one", "other"] [false, false] F_over) (d_minus : Def P w K mg base 3 "minus" ["one", "other"] [false, false] F_minus) :
  DefR P w K mg base 4 "time_to" ["one", "other"] [false, false] (defF [false, false] 2 sf_time_to) :=
  DefR.mk' (k := 3) a_time_to sc_time_to rfl (by decide) (fun f cdv A outer s H E Z H0 io zd zi s0 hr =>
    ((sjs_cons (sj_if (tj_not (tj_val (ej_call d_under (by decide) rfl rfl hr (by decide) (by rfl) (L2.takes_of rfl rfl rfl rfl) (aj_cons (ej_ix rfl (fun _ _ => rfl) (ej_v (L2.pv 1)) ej_int) (aj_cons (ej_ix rfl (fun _ _ => rfl) (ej_v (L2.pv 0)) ej_int) aj_nil))))) (sjs_one (sj_ret ej_non)) sjs_nil)
    (sjs_one (sj_ret (ej_call d_over (by decide) rfl rfl hr (by decide) (by rfl) (L2.takes_of rfl rfl rfl rfl) (aj_cons (ej_call d_minus (by decide) rfl rfl hr (by decide) (by rfl) (L2.takes_of rfl rfl rfl rfl) (aj_cons (ej_ix rfl (fun _ _ => rfl) (ej_v (L2.pv 1)) ej_int) (aj_cons (ej_ix rfl (fun _ _ => rfl) (ej_v (L2.pv 0)) ej_int) aj_nil))) (aj_cons (ej_call d_minus (by decide) rfl rfl hr (by decide) (by rfl) (L2.takes_of rfl rfl rfl rfl) (aj_cons (ej_ix rfl (fun _ _ => rfl) (ej_v (L2.pv 0)) ej_int) (aj_cons (ej_ix rfl (fun _ _ => rfl) (ej_v (L2.pv 1)) ej_int) aj_nil))) aj_nil)))))))
    )
theorem sc_times_on : L2.FnScope ["clumps", "found", "at", "time"] ["clumps"] (L2.defScope (topS 28)) := ⟨rfl, rfl, rfl, by decide +kernel, rfl, by decide +kernel, by decide +kernel⟩
theorem ok_times_on {P : Program} {w : World} {K : PySem.W.Frag} {mg : Str → Option Value} {base : Heap} (a_times_on : At K mg "times_on" "times_on" (topS 28) ["clumps"]) (d_time_to : Def P w K mg base 4 "time_to" ["one", "other"] [false, false] F_time_to) (z_len : mg "len" = none) (z_range : mg "range" = none) :
  DefR P w K mg base 5 "times_on" ["clumps"] [false] (defF [false] 4 sf_times_on) :=
  DefR.mk' (k := 4) a_times_on sc_times_on rfl (by decide) (fun f cdv A outer s H E Z H0 io zd zi s0 hr =>
    ((sjs_cons (sj_set (i := 1) (fz := false) (ej_lst aj_nil) (nm rfl) sc_times_on.nd rfl (.inl rfl))
    (sjs_cons (sj_for (L2.passes_of rfl) rfl (ij_range1 (by rfl) z_range (aj_cons (ej_sub (ej_callB L2.call_len lenC_mono (lenC_says rfl) (by rfl) z_len (by decide +kernel) (aj_cons (ej_v (L2.pv 0)) aj_nil)) ej_int) aj_nil)) (gj_name (nm rfl) sc_times_on.nd rfl (.inl rfl)) (sjs_cons (sj_set (i := 3) (fz := true) (ej_call d_time_to (by decide) rfl rfl hr (by decide) (by rfl) (L2.takes_of rfl rfl rfl rfl) (aj_cons (ej_tup (aj_cons (ej_ix rfl (fun _ _ => rfl) (ej_ix rfl (fun _ _ => rfl) (ej_v (L2.pv 0)) (ej_v (L2.pv 2))) ej_int) (aj_cons (ej_ix rfl (fun _ _ => rfl) (ej_ix rfl (fun _ _ => rfl) (ej_v (L2.pv 0)) (ej_v (L2.pv 2))) ej_int) aj_nil)) rfl) (aj_cons (ej_tup (aj_cons (ej_ix rfl (fun _ _ => rfl) (ej_ix rfl (fun _ _ => rfl) (ej_v (L2.pv 0)) (ej_add rfl (ej_v (L2.pv 2)) ej_int)) ej_int) (aj_cons (ej_ix rfl (fun _ _ => rfl) (ej_ix rfl (fun _ _ => rfl) (ej_v (L2.pv 0)) (ej_add rfl (ej_v (L2.pv 2)) ej_int)) ej_int) aj_nil)) rfl) aj_nil))) (nm rfl) sc_times_on.nd rfl (.inl rfl))
    (sjs_one (sj_if (tj_isnot (ej_v (L2.pv 3)) ej_non) (sjs_one (sj_expr (ej_append rfl (L2.pv 1) (aj_cons (ej_v (L2.pv 3)) aj_nil)))) sjs_nil))))
    (sjs_one (sj_ret (ej_m (L2.pv 1)))))))
    )
theorem sc_next_moment : L2.FnScope ["clumps", "now", "least"] ["clumps", "now"] (L2.defScope (topS 30)) := ⟨rfl, rfl, rfl, by decide +kernel, rfl, by decide +kernel, by decide +kernel⟩
theorem ok_next_moment {P : Program} {w : World} {K : PySem.W.Frag} {mg : Str → Option Value} {base : Heap} (a_next_moment : At K mg "next_moment" "next_moment" (topS 30) ["clumps", "now"]) (d_least_of : Def P w K mg base 2 "least_of" ["some"] [false] F_least_of) (d_times_on : Def P w K mg base 5 "times_on" ["clumps"] [false] F_times_on) (d_plus : Def P w K mg base 3 "plus" ["one", "other"] [false, false] F_plus) :
  DefR P w K mg base 6 "next_moment" ["clumps", "now"] [false, false] (defF [false, false] 3 sf_next_moment) :=
  DefR.mk' (k := 5) a_next_moment sc_next_moment rfl (by decide) (fun f cdv A outer s H E Z H0 io zd zi s0 hr =>
    ((sjs_cons (sj_set (i := 2) (fz := true) (ej_call d_least_of (by decide) rfl rfl hr (by decide) (by rfl) (L2.takes_of rfl rfl rfl rfl) (aj_cons (ej_call d_times_on (by decide) rfl rfl hr (by decide) (by rfl) (L2.takes_of rfl rfl rfl rfl) (aj_cons (ej_v (L2.pv 0)) aj_nil)) aj_nil)) (nm rfl) sc_next_moment.nd rfl (.inl rfl))
    (sjs_cons (sj_if (tj_is (ej_v (L2.pv 2)) ej_non) (sjs_one (sj_ret ej_non)) sjs_nil)
    (sjs_one (sj_ret (ej_call d_plus (by decide) rfl rfl hr (by decide) (by rfl) (L2.takes_of rfl rfl rfl rfl) (aj_cons (ej_v (L2.pv 1)) (aj_cons (ej_v (L2.pv 2)) aj_nil))))))))
    )
theorem sc_times : L2.FnScope ["one", "other"] ["one", "other"] (L2.defScope (topS 12)) := ⟨rfl, rfl, rfl, by decide +kernel, rfl, by decide +kernel, by decide +kernel⟩
theorem ok_times {P : Program} {w : World} {K : PySem.W.Frag} {mg : Str → Option Value} {base : Heap} (a_times : At K mg "times" "times" (topS 12) ["one", "other"]) (d_fraction : Def P w K mg base 2 "fraction" ["top", "bottom"] [false, false] F_fraction) :
  DefR P w K mg base 3 "times" ["one", "other"] [false, false] (defF [false, false] 2 sf_times) :=
  DefR.mk' (k := 2) a_times sc_times rfl (by decide) (fun f cdv A outer s H E Z H0 io zd zi s0 hr =>
    ((sjs_one (sj_ret (ej_call d_fraction (by decide) rfl rfl hr (by decide) (by rfl) (L2.takes_of rfl rfl rfl rfl) (aj_cons (ej_mul (ej_ix rfl (fun _ _ => rfl) (ej_v (L2.pv 0)) ej_int) (ej_ix rfl (fun _ _ => rfl) (ej_v (L2.pv 1)) ej_int)) (aj_cons (ej_mul (ej_ix rfl (fun _ _ => rfl) (ej_v (L2.pv 0)) ej_int) (ej_ix rfl (fun _ _ => rfl) (ej_v (L2.pv 1)) ej_int)) aj_nil))))))
    )
theorem sc_led_on : L2.FnScope ["clumps", "time", "found", "first", "last", "place", "speed", "weight"] ["clumps", "time"] (L2.defScope (topS 26)) := ⟨rfl, rfl, rfl, by decide +kernel, rfl, by decide +kernel, by decide +kernel⟩
theorem ok_led_on {P : Program} {w : World} {K : PySem.W.Frag} {mg : Str → Option Value} {base : Heap} (a_led_on : At K mg "led_on" "led_on" (topS 26) ["clumps", "time"]) (d_plus : Def P w K mg base 3 "plus" ["one", "other"] [false, false] F_plus) (d_times : Def P w K mg base 3 "times" ["one", "other"] [false, false] F_times) :
  DefR P w K mg base 4 "led_on" ["clumps", "time"] [false, false] (defF [false, false] 8 sf_led_on) :=
  DefR.mk' (k := 3) a_led_on sc_led_on rfl (by decide) (fun f cdv A outer s H E Z H0 io zd zi s0 hr =>
    ((sjs_cons (sj_set (i := 2) (fz := false) (ej_lst aj_nil) (nm rfl) sc_led_on.nd rfl (.inl rfl))
    (sjs_cons (sj_for (L2.passes_of rfl) rfl (ij_seq rfl (ej_v (L2.pv 0))) (gj_tup rfl rfl (gjs_cons (gj_name (nm rfl) sc_led_on.nd rfl (.inl rfl)) (gjs_cons (gj_name (nm rfl) sc_led_on.nd rfl (.inl rfl)) (gjs_cons (gj_name (nm rfl) sc_led_on.nd rfl (.inl rfl)) (gjs_cons (gj_name (nm rfl) sc_led_on.nd rfl (.inl rfl)) (gjs_cons (gj_name (nm rfl) sc_led_on.nd rfl (.inl rfl)) gjs_nil)))))) (sjs_one (sj_expr (ej_append rfl (L2.pv 2) (aj_cons (ej_tup (aj_cons (ej_v (L2.pv 3)) (aj_cons (ej_v (L2.pv 4)) (aj_cons (ej_call d_plus (by decide) rfl rfl hr (by decide) (by rfl) (L2.takes_of rfl rfl rfl rfl) (aj_cons (ej_v (L2.pv 5)) (aj_cons (ej_call d_times (by decide) rfl rfl hr (by decide) (by rfl) (L2.takes_of rfl rfl rfl rfl) (aj_cons (ej_v (L2.pv 6)) (aj_cons (ej_v (L2.pv 1)) aj_nil))) aj_nil))) (aj_cons (ej_v (L2.pv 6)) (aj_cons (ej_v (L2.pv 7)) aj_nil))))) rfl) aj_nil)))))
    (sjs_one (sj_ret (ej_m (L2.pv 2)))))))
    )
theorem sc_joined : L2.FnScope ["one", "other", "weight", "sums"] ["one", "other"] (L2.defScope (topS 27)) := ⟨rfl, rfl, rfl, by decide +kernel, rfl, by decide +kernel, by decide +kernel⟩
theorem ok_joined {P : Program} {w : World} {K : PySem.W.Frag} {mg : Str → Option Value} {base : Heap} (a_joined : At K mg "joined" "joined" (topS 27) ["one", "other"]) (d_plus : Def P w K mg base 3 "plus" ["one", "other"] [false, false] F_plus) (d_times : Def P w K mg base 3 "times" ["one", "other"] [false, false] F_times) (d_fraction : Def P w K mg base 2 "fraction" ["top", "bottom"] [false, false] F_fraction) (d_over : Def P w K mg base 3 "over" ["one", "other"] [false, false] F_over) :
  DefR P w K mg base 4 "joined" ["one", "other"] [false, false] (defF [false, false] 4 sf_joined) :=
  DefR.mk' (k := 3) a_joined sc_joined rfl (by decide) (fun f cdv A outer s H E Z H0 io zd zi s0 hr =>
    ((sjs_cons (sj_set (i := 2) (fz := true) (ej_add rfl (ej_ix rfl (fun _ _ => rfl) (ej_v (L2.pv 0)) ej_int) (ej_ix rfl (fun _ _ => rfl) (ej_v (L2.pv 1)) ej_int)) (nm rfl) sc_joined.nd rfl (.inl rfl))
    (sjs_cons (sj_set (i := 3) (fz := true) (ej_call d_plus (by decide) rfl rfl hr (by decide) (by rfl) (L2.takes_of rfl rfl rfl rfl) (aj_cons (ej_call d_times (by decide) rfl rfl hr (by decide) (by rfl) (L2.takes_of rfl rfl rfl rfl) (aj_cons (ej_call d_fraction (by decide) rfl rfl hr (by decide) (by rfl) (L2.takes_of rfl rfl rfl rfl) (aj_cons (ej_ix rfl (fun _ _ => rfl) (ej_v (L2.pv 0)) ej_int) (aj_cons ej_int aj_nil))) (aj_cons (ej_ix rfl (fun _ _ => rfl) (ej_v (L2.pv 0)) ej_int) aj_nil))) (aj_cons (ej_call d_times (by decide) rfl rfl hr (by decide) (by rfl) (L2.takes_of rfl rfl rfl rfl) (aj_cons (ej_call d_fraction (by decide) rfl rfl hr (by decide) (by rfl) (L2.takes_of rfl rfl rfl rfl) (aj_cons (ej_ix rfl (fun _ _ => rfl) (ej_v (L2.pv 1)) ej_int) (aj_cons ej_int aj_nil))) (aj_cons (ej_ix rfl (fun _ _ => rfl) (ej_v (L2.pv 1)) ej_int) aj_nil))) aj_nil))) (nm rfl) sc_joined.nd rfl (.inl rfl))
    (sjs_one (sj_ret (ej_tup (aj_cons (ej_ix rfl (fun _ _ => rfl) (ej_v (L2.pv 0)) ej_int) (aj_cons (ej_ix rfl (fun _ _ => rfl) (ej_v (L2.pv 1)) ej_int) (aj_cons (ej_ix rfl (fun _ _ => rfl) (ej_v (L2.pv 0)) ej_int) (aj_cons (ej_call d_over (by decide) rfl rfl hr (by decide) (by rfl) (L2.takes_of rfl rfl rfl rfl) (aj_cons (ej_v (L2.pv 3)) (aj_cons (ej_call d_fraction (by decide) rfl rfl hr (by decide) (by rfl) (L2.takes_of rfl rfl rfl rfl) (aj_cons (ej_v (L2.pv 2)) (aj_cons ej_int aj_nil))) aj_nil))) (aj_cons (ej_v (L2.pv 2)) aj_nil))))) rfl))))))
    )
theorem sc_stuck_together : L2.FnScope ["clumps", "found", "clump"] ["clumps"] (L2.defScope (topS 29)) := ⟨rfl, rfl, rfl, by decide +kernel, rfl, by decide +kernel, by decide +kernel⟩
theorem ok_stuck_together {P : Program} {w : World} {K : PySem.W.Frag} {mg : Str → Option Value} {base : Heap} (a_stuck_together : At K mg "stuck_together" "stuck_together" (topS 29) ["clumps"]) (d_joined : Def P w K mg base 4 "joined" ["one", "other"] [false, false] F_joined) :
  DefR P w K mg base 5 "stuck_together" ["clumps"] [false] (defF [false] 3 sf_stuck_together) :=
  DefR.mk' (k := 4) a_stuck_together sc_stuck_together rfl (by decide) (fun f cdv A outer s H E Z H0 io zd zi s0 hr =>
    ((sjs_cons (sj_set (i := 1) (fz := false) (ej_lst aj_nil) (nm rfl) sc_stuck_together.nd rfl (.inl rfl))
    (sjs_cons (sj_for (L2.passes_of rfl) rfl (ij_seq rfl (ej_v (L2.pv 0))) (gj_name (nm rfl) sc_stuck_together.nd rfl (.inl rfl)) (sjs_one (sj_if ((wj_and (tj_ne rfl (u128 hr) (ej_r (L2.pv 1)) (ej_lst aj_nil)) (wj_and1 (tj_eq rfl (u128 hr) (ej_ix rfl (fun _ _ => rfl) (ej_ix rfl (fun _ _ => rfl) (ej_r (L2.pv 1)) (ej_neg ej_int)) ej_int) (ej_ix rfl (fun _ _ => rfl) (ej_v (L2.pv 2)) ej_int))))).tj (sjs_one (sj_setix (i := 1) (L2.pv 1) (ej_call d_joined (by decide) rfl rfl hr (by decide) (by rfl) (L2.takes_of rfl rfl rfl rfl) (aj_cons (ej_ix rfl (fun _ _ => rfl) (ej_r (L2.pv 1)) (ej_neg ej_int)) (aj_cons (ej_v (L2.pv 2)) aj_nil))) (ej_neg ej_int))) (sjs_one (sj_expr (ej_append rfl (L2.pv 1) (aj_cons (ej_v (L2.pv 2)) aj_nil)))))))
    (sjs_one (sj_ret (ej_m (L2.pv 1)))))))
    )
theorem sc_stuck_on : L2.FnScope ["clumps", "now", "moment", "there", "found", "known", "clump"] ["clumps", "now", "moment"] (L2.defScope (topS 31)) := ⟨rfl, rfl, rfl, by decide +kernel, rfl, by decide +kernel, by decide +kernel⟩
theorem ok_stuck_on {P : Program} {w : World} {K : PySem.W.Frag} {mg : Str → Option Value} {base : Heap} (a_stuck_on : At K mg "stuck_on" "stuck_on" (topS 31) ["clumps", "now", "moment"]) (d_led_on : Def P w K mg base 4 "led_on" ["clumps", "time"] [false, false] F_led_on) (d_minus : Def P w K mg base 3 "minus" ["one", "other"] [false, false] F_minus) (d_stuck_together : Def P w K mg base 5 "stuck_together" ["clumps"] [false] F_stuck_together) :
  DefR P w K mg base 6 "stuck_on" ["clumps", "now", "moment"] [false, false, false] (defF [false, false, false] 7 sf_stuck_on) :=
  DefR.mk' (k := 5) a_stuck_on sc_stuck_on rfl (by decide) (fun f cdv A outer s H E Z H0 io zd zi s0 hr =>
    ((sjs_cons (sj_set (i := 3) (fz := true) (ej_call d_led_on (by decide) rfl rfl hr (by decide) (by rfl) (L2.takes_of rfl rfl rfl rfl) (aj_cons (ej_v (L2.pv 0)) (aj_cons (ej_call d_minus (by decide) rfl rfl hr (by decide) (by rfl) (L2.takes_of rfl rfl rfl rfl) (aj_cons (ej_v (L2.pv 2)) (aj_cons (ej_v (L2.pv 1)) aj_nil))) aj_nil))) (nm rfl) sc_stuck_on.nd rfl (.inl rfl))
    (sjs_cons (sj_set (i := 4) (fz := true) (ej_call d_stuck_together (by decide) rfl rfl hr (by decide) (by rfl) (L2.takes_of rfl rfl rfl rfl) (aj_cons (ej_v (L2.pv 3)) aj_nil)) (nm rfl) sc_stuck_on.nd rfl (.inl rfl))
    (sjs_cons (sj_set (i := 5) (fz := true) (ej_lc (own := [("clump", 6)]) rfl sc_stuck_on.nd (by first | (simp; done) | (simp [frB, frOf, maskAt]; done)) (ij_seq rfl (ej_v (L2.pv 3))) (blk_ok (N := ["clumps", "now", "moment", "there", "found", "known", "clump"]) (sc := L2.defScope (topS 31)) rfl rfl (by decide +kernel)) (fun _ _ _ _ _ => (gw_name (by simp) (nm rfl) sc_stuck_on.nd rfl (.inl rfl) (.inr rfl))) (fun _ _ _ _ _ => tjs_nil) (fun _ _ _ _ _ => (ej_slX rfl (ej_v (L2.pv 6)) oj_none (oj_some ej_int)))) (nm rfl) sc_stuck_on.nd rfl (.inr rfl))
    (sjs_one (sj_ret (ej_tup (aj_cons (ej_v (L2.pv 4)) (aj_cons (ej_lc (own := [("clump", 6)]) rfl sc_stuck_on.nd (by first | (simp; done) | (simp [frB, frOf, maskAt]; done)) (ij_seq rfl (ej_v (L2.pv 4))) (blk_ok (N := ["clumps", "now", "moment", "there", "found", "known", "clump"]) (sc := L2.defScope (topS 31)) rfl rfl (by decide +kernel)) (fun _ _ _ _ _ => (gw_name (by simp) (nm rfl) sc_stuck_on.nd rfl (.inl rfl) (.inr rfl))) (fun _ _ _ _ _ => (tjs_one (tj_notin rfl (u128 hr) (ej_slX rfl (ej_v (L2.pv 6)) oj_none (oj_some ej_int)) (ej_v (L2.pv 5))))) (fun _ _ _ _ _ => (ej_v (L2.pv 6)))) aj_nil)) rfl)))))))
    )
theorem sc_stuck_run : L2.FnScope ["world", "clumps", "now", "run", "moment", "made", "first", "last", "place", "speed", "weight"] ["world"] (L2.defScope (topS 32)) := ⟨rfl, rfl, rfl, by decide +kernel, rfl, by decide +kernel, by decide +kernel⟩
theorem ok_stuck_run {P : Program} {w : World} {K : PySem.W.Frag} {mg : Str → Option Value} {base : Heap} (a_stuck_run : At K mg "stuck_run" "stuck_run" (topS 32) ["world"]) (d_first_clumps : Def P w K mg base 1 "first_clumps" ["world"] [false] F_first_clumps) (g_NOUGHT : GD K mg "NOUGHT" gv_NOUGHT) (d_next_moment : Def P w K mg base 6 "next_moment" ["clumps", "now"] [false, false] F_next_moment) (d_stuck_on : Def P w K mg base 6 "stuck_on" ["clumps", "now", "moment"] [false, false, false] F_stuck_on) :
  DefR P w K mg base 7 "stuck_run" ["world"] [false] (defF [false] 11 sf_stuck_run) :=
  DefR.mk' (k := 6) a_stuck_run sc_stuck_run rfl (by decide) (fun f cdv A outer s H E Z H0 io zd zi s0 hr =>
    ((sjs_cons (sj_set (i := 1) (fz := true) (ej_call d_first_clumps (by decide) rfl rfl hr (by decide) (by rfl) (L2.takes_of rfl rfl rfl rfl) (aj_cons (ej_v (L2.pv 0)) aj_nil)) (nm rfl) sc_stuck_run.nd rfl (.inl rfl))
    (sjs_cons (sj_set (i := 2) (fz := true) (ej_gd rfl rfl (by rfl) g_NOUGHT) (nm rfl) sc_stuck_run.nd rfl (.inl rfl))
    (sjs_cons (sj_set (i := 3) (fz := false) (ej_lst aj_nil) (nm rfl) sc_stuck_run.nd rfl (.inl rfl))
    (sjs_cons (sj_set (i := 4) (fz := true) (ej_call d_next_moment (by decide) rfl rfl hr (by decide) (by rfl) (L2.takes_of rfl rfl rfl rfl) (aj_cons (ej_v (L2.pv 1)) (aj_cons (ej_v (L2.pv 2)) aj_nil))) (nm rfl) sc_stuck_run.nd rfl (.inr rfl))
    (sjs_cons (sj_while (L2.passes_of rfl) (tj_isnot (ej_v (L2.pv 4)) ej_non) (sjs_cons (sj_asg (ej_call d_stuck_on (by decide) rfl rfl hr (by decide) (by rfl) (L2.takes_of rfl rfl rfl rfl) (aj_cons (ej_v (L2.pv 1)) (aj_cons (ej_v (L2.pv 2)) (aj_cons (ej_v (L2.pv 4)) aj_nil)))) (gj_tup rfl rfl (gjs_cons (gj_name (nm rfl) sc_stuck_run.nd rfl (.inl rfl)) (gjs_cons (gj_name (nm rfl) sc_stuck_run.nd rfl (.inl rfl)) gjs_nil))))
    (sjs_cons (sj_expr (ej_methL rfl extL_mono extL_says PySem.F.slot_list_extend PySem.F.type_list_extend L2.mt_extend (L2.pv 3) (aj_cons (ej_lc (own := [("first", 6), ("last", 7), ("place", 8), ("speed", 9), ("weight", 10)]) rfl sc_stuck_run.nd (by first | (simp; done) | (simp [frB, frOf, maskAt]; done)) (ij_seq rfl (ej_v (L2.pv 5))) (blk_ok (N := ["world", "clumps", "now", "run", "moment", "made", "first", "last", "place", "speed", "weight"]) (sc := L2.defScope (topS 32)) rfl rfl (by decide +kernel)) (fun _ _ _ _ _ => (gw_tup rfl rfl (gws_cons (gw_name (by simp) (nm rfl) sc_stuck_run.nd rfl (.inl rfl) (.inr rfl)) (gws_cons (gw_name (by simp) (nm rfl) sc_stuck_run.nd rfl (.inl rfl) (.inr rfl)) (gws_cons (gw_name (by simp) (nm rfl) sc_stuck_run.nd rfl (.inl rfl) (.inr rfl)) (gws_cons (gw_name (by simp) (nm rfl) sc_stuck_run.nd rfl (.inl rfl) (.inr rfl)) (gws_cons (gw_name (by simp) (nm rfl) sc_stuck_run.nd rfl (.inl rfl) (.inr rfl)) gws_nil))))))) (fun _ _ _ _ _ => tjs_nil) (fun _ _ _ _ _ => (ej_tup (aj_cons (ej_v (L2.pv 4)) (aj_cons (ej_v (L2.pv 8)) (aj_cons (ej_v (L2.pv 6)) (aj_cons (ej_v (L2.pv 7)) aj_nil)))) rfl))) aj_nil)))
    (sjs_cons (sj_set (i := 2) (fz := true) (ej_v (L2.pv 4)) (nm rfl) sc_stuck_run.nd rfl (.inl rfl))
    (sjs_one (sj_set (i := 4) (fz := true) (ej_call d_next_moment (by decide) rfl rfl hr (by decide) (by rfl) (L2.takes_of rfl rfl rfl rfl) (aj_cons (ej_v (L2.pv 1)) (aj_cons (ej_v (L2.pv 2)) aj_nil))) (nm rfl) sc_stuck_run.nd rfl (.inr rfl)))))))
    (sjs_one (sj_ret (ej_m (L2.pv 3))))))))))
    )
theorem sc__law_times : L2.FnScope ["_law_one", "_law_other"] ["_law_one", "_law_other"] (L2.defScope (topS 42)) := ⟨rfl, rfl, rfl, by decide +kernel, rfl, by decide +kernel, by decide +kernel⟩
theorem ok__law_times {P : Program} {w : World} {K : PySem.W.Frag} {mg : Str → Option Value} {base : Heap} (a__law_times : At K mg "_law_times" "_law_times" (topS 42) ["_law_one", "_law_other"]) (d__law_fit : Def P w K mg base 1 "_law_fit" ["_law_top", "_law_bottom"] [false, false] F__law_fit) :
  DefR P w K mg base 2 "_law_times" ["_law_one", "_law_other"] [false, false] (defF [false, false] 2 sf__law_times) :=
  DefR.mk' (k := 1) a__law_times sc__law_times rfl (by decide) (fun f cdv A outer s H E Z H0 io zd zi s0 hr =>
    ((sjs_one (sj_ret (ej_call d__law_fit (by decide) rfl rfl hr (by decide) (by rfl) (L2.takes_of rfl rfl rfl rfl) (aj_cons (ej_mul (ej_ix rfl (fun _ _ => rfl) (ej_v (L2.pv 0)) ej_int) (ej_ix rfl (fun _ _ => rfl) (ej_v (L2.pv 1)) ej_int)) (aj_cons (ej_mul (ej_ix rfl (fun _ _ => rfl) (ej_v (L2.pv 0)) ej_int) (ej_ix rfl (fun _ _ => rfl) (ej_v (L2.pv 1)) ej_int)) aj_nil))))))
    )
theorem sc__law_moments : L2.FnScope ["_law_box_here", "_law_world_here", "_law_run", "_law_found", "_law_one"] ["_law_box_here", "_law_world_here"] (L2.defScope (topS 47)) := ⟨rfl, rfl, rfl, by decide +kernel, rfl, by decide +kernel, by decide +kernel⟩
theorem ok__law_moments {P : Program} {w : World} {K : PySem.W.Frag} {mg : Str → Option Value} {base : Heap} (a__law_moments : At K mg "_law_moments" "_law_moments" (topS 47) ["_law_box_here", "_law_world_here"]) (d_stuck_run : Def P w K mg base 7 "stuck_run" ["world"] [false] F_stuck_run) (d__law_fit : Def P w K mg base 1 "_law_fit" ["_law_top", "_law_bottom"] [false, false] F__law_fit) (d__law_take : Def P w K mg base 1 "_law_take" ["_law_box_here", "_law_many"] [true, false] F__law_take) (d__law_plus : Def P w K mg base 2 "_law_plus" ["_law_one", "_law_other"] [false, false] F__law_plus) (d__law_times : Def P w K mg base 2 "_law_times" ["_law_one", "_law_other"] [false, false] F__law_times) (z_len : mg "len" = none) :
  DefR P w K mg base 8 "_law_moments" ["_law_box_here", "_law_world_here"] [true, false] (defF [true, false] 5 sf__law_moments) :=
  DefR.mk' (k := 7) a__law_moments sc__law_moments rfl (by decide) (fun f cdv A outer s H E Z H0 io zd zi s0 hr =>
    ((sjs_cons (sj_set (i := 2) (fz := true) (ej_call d_stuck_run (by decide) rfl rfl hr (by decide) (by rfl) (L2.takes_of rfl rfl rfl rfl) (aj_cons (ej_v (L2.pv 1)) aj_nil)) (nm rfl) sc__law_moments.nd rfl (.inl rfl))
    (sjs_cons (sj_set (i := 3) (fz := true) (ej_lst (aj_cons (ej_tup (aj_cons ej_int (aj_cons ej_int aj_nil)) rfl) (aj_cons (ej_call d__law_fit (by decide) rfl rfl hr (by decide) (by rfl) (L2.takes_of rfl rfl rfl rfl) (aj_cons (ej_add rfl ej_int (ej_callI (i := 0) (kk := 0) (mm := 1) d__law_take rfl rfl rfl hr (by decide) (by rfl) (L2.takes_of rfl rfl rfl rfl) (aji_here (L2.pv 0) (aj_cons ej_int aj_nil)))) (aj_cons (ej_add rfl ej_int (ej_callI (i := 0) (kk := 0) (mm := 1) d__law_take rfl rfl rfl hr (by decide) (by rfl) (L2.takes_of rfl rfl rfl rfl) (aji_here (L2.pv 0) (aj_cons ej_int aj_nil)))) aj_nil))) aj_nil))) (nm rfl) sc__law_moments.nd rfl (.inl rfl))
    (sjs_cons (sj_if (tj_ne rfl (u128 hr) (ej_v (L2.pv 2)) (ej_lst aj_nil)) (sjs_cons (sj_set (i := 4) (fz := true) (ej_ix rfl (fun _ _ => rfl) (ej_ix rfl (fun _ _ => rfl) (ej_v (L2.pv 2)) (ej_callI (i := 0) (kk := 0) (mm := 1) d__law_take rfl rfl rfl hr (by decide) (by rfl) (L2.takes_of rfl rfl rfl rfl) (aji_here (L2.pv 0) (aj_cons (ej_callB L2.call_len lenC_mono (lenC_says rfl) (by rfl) z_len (by decide +kernel) (aj_cons (ej_v (L2.pv 2)) aj_nil)) aj_nil)))) ej_int) (nm rfl) sc__law_moments.nd rfl (.inl rfl))
    (sjs_one (sj_set (i := 3) (fz := true) (ej_add rfl (ej_v (L2.pv 3)) (ej_lst (aj_cons (ej_v (L2.pv 4)) (aj_cons (ej_ix rfl (fun _ _ => rfl) (ej_ix rfl (fun _ _ => rfl) (ej_v (L2.pv 2)) (ej_neg ej_int)) ej_int) (aj_cons (ej_call d__law_plus (by decide) rfl rfl hr (by decide) (by rfl) (L2.takes_of rfl rfl rfl rfl) (aj_cons (ej_ix rfl (fun _ _ => rfl) (ej_ix rfl (fun _ _ => rfl) (ej_v (L2.pv 2)) (ej_neg ej_int)) ej_int) (aj_cons (ej_tup (aj_cons ej_int (aj_cons ej_int aj_nil)) rfl) aj_nil))) (aj_cons (ej_call d__law_times (by decide) rfl rfl hr (by decide) (by rfl) (L2.takes_of rfl rfl rfl rfl) (aj_cons (ej_v (L2.pv 4)) (aj_cons (ej_tup (aj_cons ej_int (aj_cons ej_int aj_nil)) rfl) aj_nil))) aj_nil)))))) (nm rfl) sc__law_moments.nd rfl (.inl rfl)))) sjs_nil)
    (sjs_one (sj_ret (ej_v (L2.pv 3))))))))
    )
theorem sc_seen_from : L2.FnScope ["body", "speed"] ["body", "speed"] (L2.defScope (topS 19)) := ⟨rfl, rfl, rfl, by decide +kernel, rfl, by decide +kernel, by decide +kernel⟩
theorem ok_seen_from {P : Program} {w : World} {K : PySem.W.Frag} {mg : Str → Option Value} {base : Heap} (a_seen_from : At K mg "seen_from" "seen_from" (topS 19) ["body", "speed"]) (d_minus : Def P w K mg base 3 "minus" ["one", "other"] [false, false] F_minus) :
  DefR P w K mg base 4 "seen_from" ["body", "speed"] [false, false] (defF [false, false] 2 sf_seen_from) :=
  DefR.mk' (k := 3) a_seen_from sc_seen_from rfl (by decide) (fun f cdv A outer s H E Z H0 io zd zi s0 hr =>
    ((sjs_one (sj_ret (ej_tup (aj_cons (ej_ix rfl (fun _ _ => rfl) (ej_v (L2.pv 0)) ej_int) (aj_cons (ej_call d_minus (by decide) rfl rfl hr (by decide) (by rfl) (L2.takes_of rfl rfl rfl rfl) (aj_cons (ej_ix rfl (fun _ _ => rfl) (ej_v (L2.pv 0)) ej_int) (aj_cons (ej_v (L2.pv 1)) aj_nil))) (aj_cons (ej_ix rfl (fun _ _ => rfl) (ej_v (L2.pv 0)) ej_int) aj_nil))) rfl))))
    )
theorem sc_need_moment : L2.FnScope ["moment"] ["moment"] (L2.defScope (topS 23)) := ⟨rfl, rfl, rfl, by decide +kernel, rfl, by decide +kernel, by decide +kernel⟩
theorem ok_need_moment {P : Program} {w : World} {K : PySem.W.Frag} {mg : Str → Option Value} {base : Heap} (a_need_moment : At K mg "need_moment" "need_moment" (topS 23) ["moment"]) (d_under : Def P w K mg base 1 "under" ["one", "other"] [false, false] F_under) (g_NOUGHT : GD K mg "NOUGHT" gv_NOUGHT) (x_NoMoment : XCls K mg "NoMoment") :
  DefR P w K mg base 2 "need_moment" ["moment"] [false] (defF [false] 1 sf_need_moment) :=
  DefR.mk' (k := 1) a_need_moment sc_need_moment rfl (by decide) (fun f cdv A outer s H E Z H0 io zd zi s0 hr =>
    ((sjs_one (sj_if (tj_val (ej_call d_under (by decide) rfl rfl hr (by decide) (by rfl) (L2.takes_of rfl rfl rfl rfl) (aj_cons (ej_v (L2.pv 0)) (aj_cons (ej_gd rfl rfl (by rfl) g_NOUGHT) aj_nil)))) (sjs_one (sj_raise rfl rfl rfl (L2.takes_of rfl rfl rfl rfl) x_NoMoment (by rfl))) sjs_nil)))
    )
theorem sc_clumps_at : L2.FnScope ["world", "moment", "clumps", "now", "ahead"] ["world", "moment"] (L2.defScope (topS 33)) := ⟨rfl, rfl, rfl, by decide +kernel, rfl, by decide +kernel, by decide +kernel⟩
theorem ok_clumps_at {P : Program} {w : World} {K : PySem.W.Frag} {mg : Str → Option Value} {base : Heap} (a_clumps_at : At K mg "clumps_at" "clumps_at" (topS 33) ["world", "moment"]) (d_need_moment : Def P w K mg base 2 "need_moment" ["moment"] [false] F_need_moment) (d_first_clumps : Def P w K mg base 1 "first_clumps" ["world"] [false] F_first_clumps) (g_NOUGHT : GD K mg "NOUGHT" gv_NOUGHT) (d_next_moment : Def P w K mg base 6 "next_moment" ["clumps", "now"] [false, false] F_next_moment) (d_under : Def P w K mg base 1 "under" ["one", "other"] [false, false] F_under) (d_stuck_on : Def P w K mg base 6 "stuck_on" ["clumps", "now", "moment"] [false, false, false] F_stuck_on) (d_led_on : Def P w K mg base 4 "led_on" ["clumps", "time"] [false, false] F_led_on) (d_minus : Def P w K mg base 3 "minus" ["one", "other"] [false, false] F_minus) :
  DefR P w K mg base 7 "clumps_at" ["world", "moment"] [false, false] (defF [false, false] 5 sf_clumps_at) :=
  DefR.mk' (k := 6) a_clumps_at sc_clumps_at rfl (by decide) (fun f cdv A outer s H E Z H0 io zd zi s0 hr =>
    ((sjs_cons (sj_expr (ej_call d_need_moment (by decide) rfl rfl hr (by decide) (by rfl) (L2.takes_of rfl rfl rfl rfl) (aj_cons (ej_v (L2.pv 1)) aj_nil)))
    (sjs_cons (sj_set (i := 2) (fz := true) (ej_call d_first_clumps (by decide) rfl rfl hr (by decide) (by rfl) (L2.takes_of rfl rfl rfl rfl) (aj_cons (ej_v (L2.pv 0)) aj_nil)) (nm rfl) sc_clumps_at.nd rfl (.inl rfl))
    (sjs_cons (sj_set (i := 3) (fz := true) (ej_gd rfl rfl (by rfl) g_NOUGHT) (nm rfl) sc_clumps_at.nd rfl (.inl rfl))
    (sjs_cons (sj_set (i := 4) (fz := true) (ej_call d_next_moment (by decide) rfl rfl hr (by decide) (by rfl) (L2.takes_of rfl rfl rfl rfl) (aj_cons (ej_v (L2.pv 2)) (aj_cons (ej_v (L2.pv 3)) aj_nil))) (nm rfl) sc_clumps_at.nd rfl (.inl rfl))
    (sjs_cons (sj_while (L2.passes_of rfl) ((wj_and (tj_isnot (ej_v (L2.pv 4)) ej_non) (wj_and1 (tj_not (tj_val (ej_call d_under (by decide) rfl rfl hr (by decide) (by rfl) (L2.takes_of rfl rfl rfl rfl) (aj_cons (ej_v (L2.pv 1)) (aj_cons (ej_v (L2.pv 4)) aj_nil)))))))).tj (sjs_cons (sj_set (i := 2) (fz := true) (ej_ix rfl (fun _ _ => rfl) (ej_call d_stuck_on (by decide) rfl rfl hr (by decide) (by rfl) (L2.takes_of rfl rfl rfl rfl) (aj_cons (ej_v (L2.pv 2)) (aj_cons (ej_v (L2.pv 3)) (aj_cons (ej_v (L2.pv 4)) aj_nil)))) ej_int) (nm rfl) sc_clumps_at.nd rfl (.inl rfl))
    (sjs_cons (sj_set (i := 3) (fz := true) (ej_v (L2.pv 4)) (nm rfl) sc_clumps_at.nd rfl (.inl rfl))
    (sjs_one (sj_set (i := 4) (fz := true) (ej_call d_next_moment (by decide) rfl rfl hr (by decide) (by rfl) (L2.takes_of rfl rfl rfl rfl) (aj_cons (ej_v (L2.pv 2)) (aj_cons (ej_v (L2.pv 3)) aj_nil))) (nm rfl) sc_clumps_at.nd rfl (.inl rfl))))))
    (sjs_one (sj_ret (ej_call d_led_on (by decide) rfl rfl hr (by decide) (by rfl) (L2.takes_of rfl rfl rfl rfl) (aj_cons (ej_v (L2.pv 2)) (aj_cons (ej_call d_minus (by decide) rfl rfl hr (by decide) (by rfl) (L2.takes_of rfl rfl rfl rfl) (aj_cons (ej_v (L2.pv 1)) (aj_cons (ej_v (L2.pv 3)) aj_nil))) aj_nil)))))))))))
    )
theorem sc__law_seen : L2.FnScope ["_law_world_here", "_law_speed", "_law_moment", "_law_some", "_law_way", "_law_due", "_law_run", "_law_body", "_law_one"] ["_law_world_here", "_law_speed", "_law_moment"] (L2.defScope (topS 51)) := ⟨rfl, rfl, rfl, by decide +kernel, rfl, by decide +kernel, by decide +kernel⟩
theorem ok__law_seen {P : Program} {w : World} {K : PySem.W.Frag} {mg : Str → Option Value} {base : Heap} (a__law_seen : At K mg "_law_seen" "_law_seen" (topS 51) ["_law_world_here", "_law_speed", "_law_moment"]) (d_seen_from : Def P w K mg base 4 "seen_from" ["body", "speed"] [false, false] F_seen_from) (d__law_times : Def P w K mg base 2 "_law_times" ["_law_one", "_law_other"] [false, false] F__law_times) (d_clumps_at : Def P w K mg base 7 "clumps_at" ["world", "moment"] [false, false] F_clumps_at) (d__law_minus : Def P w K mg base 2 "_law_minus" ["_law_one", "_law_other"] [false, false] F__law_minus) (d_stuck_run : Def P w K mg base 7 "stuck_run" ["world"] [false] F_stuck_run) :
  DefR P w K mg base 8 "_law_seen" ["_law_world_here", "_law_speed", "_law_moment"] [false, false, false] (defF [false, false, false] 9 sf__law_seen) :=
  DefR.mk' (k := 7) a__law_seen sc__law_seen rfl (by decide) (fun f cdv A outer s H E Z H0 io zd zi s0 hr =>
    ((sjs_cons (sj_setlc (own := [("_law_body", 7)]) (i := 3) (fz := true) (nm rfl) rfl rfl rfl rfl sc__law_seen.nd (by first | (simp; done) | (simp [frB, frOf, maskAt]; done)) (ij_seq rfl (ej_v (L2.pv 0))) (blk_ok (N := ["_law_world_here", "_law_speed", "_law_moment", "_law_some", "_law_way", "_law_due", "_law_run", "_law_body", "_law_one"]) (sc := L2.defScope (topS 51)) rfl rfl (by decide +kernel)) (fun _ _ _ _ _ => (gw_name (by simp) (nm rfl) sc__law_seen.nd rfl (.inl rfl) (.inr rfl))) (fun _ _ _ _ _ => tjs_nil) (fun _ _ _ _ _ => (ej_call d_seen_from (by decide) rfl rfl hr (by decide) (by rfl) L2.takes0 (aj_cons (ej_v (L2.pv 7)) (aj_cons (ej_v (L2.pv 1)) aj_nil)))))
    (sjs_cons (sj_set (i := 4) (fz := true) (ej_call d__law_times (by decide) rfl rfl hr (by decide) (by rfl) (L2.takes_of rfl rfl rfl rfl) (aj_cons (ej_v (L2.pv 1)) (aj_cons (ej_v (L2.pv 2)) aj_nil))) (nm rfl) sc__law_seen.nd rfl (.inr rfl))
    (sjs_cons (sj_setlc (own := [("_law_one", 8)]) (i := 5) (fz := true) (nm rfl) rfl rfl rfl rfl sc__law_seen.nd (by first | (simp; done) | (simp [frB, frOf, maskAt]; done)) (ij_seq rfl (ej_call d_clumps_at (by decide) rfl rfl hr (by decide) (by rfl) (L2.takes_of rfl rfl rfl rfl) (aj_cons (ej_v (L2.pv 0)) (aj_cons (ej_v (L2.pv 2)) aj_nil)))) (blk_ok (N := ["_law_world_here", "_law_speed", "_law_moment", "_law_some", "_law_way", "_law_due", "_law_run", "_law_body", "_law_one"]) (sc := L2.defScope (topS 51)) rfl rfl (by decide +kernel)) (fun _ _ _ _ _ => (gw_name (by simp) (nm rfl) sc__law_seen.nd rfl (.inl rfl) (.inr rfl))) (fun _ _ _ _ _ => tjs_nil) (fun _ _ _ _ _ => (ej_tup (aj_cons (ej_ix rfl (fun _ _ => rfl) (ej_v (L2.pv 8)) ej_int) (aj_cons (ej_ix rfl (fun _ _ => rfl) (ej_v (L2.pv 8)) ej_int) (aj_cons (ej_call d__law_minus (by decide) rfl rfl hr (by decide) (by rfl) L2.takes0 (aj_cons (ej_ix rfl (fun _ _ => rfl) (ej_v (L2.pv 8)) ej_int) (aj_cons (ej_v (L2.pv 4)) aj_nil))) (aj_cons (ej_call d__law_minus (by decide) rfl rfl hr (by decide) (by rfl) L2.takes0 (aj_cons (ej_ix rfl (fun _ _ => rfl) (ej_v (L2.pv 8)) ej_int) (aj_cons (ej_v (L2.pv 1)) aj_nil))) (aj_cons (ej_ix rfl (fun _ _ => rfl) (ej_v (L2.pv 8)) ej_int) aj_nil))))) rfl)))
    (sjs_cons (sj_setlc (own := [("_law_one", 8)]) (i := 6) (fz := true) (nm rfl) rfl rfl rfl rfl sc__law_seen.nd (by first | (simp; done) | (simp [frB, frOf, maskAt]; done)) (ij_seq rfl (ej_call d_stuck_run (by decide) rfl rfl hr (by decide) (by rfl) (L2.takes_of rfl rfl rfl rfl) (aj_cons (ej_v (L2.pv 0)) aj_nil))) (blk_ok (N := ["_law_world_here", "_law_speed", "_law_moment", "_law_some", "_law_way", "_law_due", "_law_run", "_law_body", "_law_one"]) (sc := L2.defScope (topS 51)) rfl rfl (by decide +kernel)) (fun _ _ _ _ _ => (gw_name (by simp) (nm rfl) sc__law_seen.nd rfl (.inl rfl) (.inr rfl))) (fun _ _ _ _ _ => tjs_nil) (fun _ _ _ _ _ => (ej_tup (aj_cons (ej_ix rfl (fun _ _ => rfl) (ej_v (L2.pv 8)) ej_int) (aj_cons (ej_call d__law_minus (by decide) rfl rfl hr (by decide) (by rfl) L2.takes0 (aj_cons (ej_ix rfl (fun _ _ => rfl) (ej_v (L2.pv 8)) ej_int) (aj_cons (ej_call d__law_times (by decide) rfl rfl hr (by decide) (by rfl) L2.takes0 (aj_cons (ej_v (L2.pv 1)) (aj_cons (ej_ix rfl (fun _ _ => rfl) (ej_v (L2.pv 8)) ej_int) aj_nil))) aj_nil))) (aj_cons (ej_ix rfl (fun _ _ => rfl) (ej_v (L2.pv 8)) ej_int) (aj_cons (ej_ix rfl (fun _ _ => rfl) (ej_v (L2.pv 8)) ej_int) aj_nil)))) rfl)))
    (sjs_one (sj_ret (ej_and (ej_eq rfl (u128 hr) (ej_call d_clumps_at (by decide) rfl rfl hr (by decide) (by rfl) (L2.takes_of rfl rfl rfl rfl) (aj_cons (ej_v (L2.pv 3)) (aj_cons (ej_v (L2.pv 2)) aj_nil))) (ej_v (L2.pv 5))) (ej_one (ej_eq rfl (u128 hr) (ej_call d_stuck_run (by decide) rfl rfl hr (by decide) (by rfl) (L2.takes_of rfl rfl rfl rfl) (aj_cons (ej_v (L2.pv 3)) aj_nil)) (ej_v (L2.pv 6))))))))))))
    )
theorem sc__law_on : L2.FnScope ["_law_world_here", "_law_first", "_law_second", "_law_ahead", "_law_behind", "_law_found", "_law_one"] ["_law_world_here", "_law_first", "_law_second"] (L2.defScope (topS 48)) := ⟨rfl, rfl, rfl, by decide +kernel, rfl, by decide +kernel, by decide +kernel⟩
theorem ok__law_on {P : Program} {w : World} {K : PySem.W.Frag} {mg : Str → Option Value} {base : Heap} (a__law_on : At K mg "_law_on" "_law_on" (topS 48) ["_law_world_here", "_law_first", "_law_second"]) (d_clumps_at : Def P w K mg base 7 "clumps_at" ["world", "moment"] [false, false] F_clumps_at) (d__law_plus : Def P w K mg base 2 "_law_plus" ["_law_one", "_law_other"] [false, false] F__law_plus) :
  DefR P w K mg base 8 "_law_on" ["_law_world_here", "_law_first", "_law_second"] [false, false, false] (defF [false, false, false] 7 sf__law_on) :=
  DefR.mk' (k := 7) a__law_on sc__law_on rfl (by decide) (fun f cdv A outer s H E Z H0 io zd zi s0 hr =>
    ((sjs_cons (sj_set (i := 3) (fz := true) (ej_call d_clumps_at (by decide) rfl rfl hr (by decide) (by rfl) (L2.takes_of rfl rfl rfl rfl) (aj_cons (ej_v (L2.pv 0)) (aj_cons (ej_v (L2.pv 1)) aj_nil))) (nm rfl) sc__law_on.nd rfl (.inr rfl))
    (sjs_cons (sj_set (i := 4) (fz := true) (ej_call d_clumps_at (by decide) rfl rfl hr (by decide) (by rfl) (L2.takes_of rfl rfl rfl rfl) (aj_cons (ej_lc (own := [("_law_one", 6)]) rfl sc__law_on.nd (by first | (simp; done) | (simp [frB, frOf, maskAt]; done)) (ij_seq rfl (ej_v (L2.pv 3))) (blk_ok (N := ["_law_world_here", "_law_first", "_law_second", "_law_ahead", "_law_behind", "_law_found", "_law_one"]) (sc := L2.defScope (topS 48)) rfl rfl (by decide +kernel)) (fun _ _ _ _ _ => (gw_name (by simp) (nm rfl) sc__law_on.nd rfl (.inl rfl) (.inr rfl))) (fun _ _ _ _ _ => tjs_nil) (fun _ _ _ _ _ => (ej_slX rfl (ej_v (L2.pv 6)) (oj_some ej_int) oj_none))) (aj_cons (ej_v (L2.pv 2)) aj_nil))) (nm rfl) sc__law_on.nd rfl (.inl rfl))
    (sjs_cons (sj_setlc (own := [("_law_one", 6)]) (i := 5) (fz := true) (nm rfl) rfl rfl rfl rfl sc__law_on.nd (by first | (simp; done) | (simp [frB, frOf, maskAt]; done)) (ij_seq rfl (ej_v (L2.pv 4))) (blk_ok (N := ["_law_world_here", "_law_first", "_law_second", "_law_ahead", "_law_behind", "_law_found", "_law_one"]) (sc := L2.defScope (topS 48)) rfl rfl (by decide +kernel)) (fun _ _ _ _ _ => (gw_name (by simp) (nm rfl) sc__law_on.nd rfl (.inl rfl) (.inr rfl))) (fun _ _ _ _ _ => tjs_nil) (fun _ _ _ _ _ => (ej_tup (aj_cons (ej_ix rfl (fun _ _ => rfl) (ej_ix rfl (fun _ _ => rfl) (ej_v (L2.pv 3)) (ej_ix rfl (fun _ _ => rfl) (ej_v (L2.pv 6)) ej_int)) ej_int) (aj_cons (ej_ix rfl (fun _ _ => rfl) (ej_ix rfl (fun _ _ => rfl) (ej_v (L2.pv 3)) (ej_ix rfl (fun _ _ => rfl) (ej_v (L2.pv 6)) ej_int)) ej_int) (aj_cons (ej_ix rfl (fun _ _ => rfl) (ej_v (L2.pv 6)) ej_int) (aj_cons (ej_ix rfl (fun _ _ => rfl) (ej_v (L2.pv 6)) ej_int) (aj_cons (ej_ix rfl (fun _ _ => rfl) (ej_v (L2.pv 6)) ej_int) aj_nil))))) rfl)))
    (sjs_one (sj_ret (ej_eq rfl (u128 hr) (ej_v (L2.pv 5)) (ej_call d_clumps_at (by decide) rfl rfl hr (by decide) (by rfl) (L2.takes_of rfl rfl rfl rfl) (aj_cons (ej_v (L2.pv 0)) (aj_cons (ej_call d__law_plus (by decide) rfl rfl hr (by decide) (by rfl) (L2.takes_of rfl rfl rfl rfl) (aj_cons (ej_v (L2.pv 1)) (aj_cons (ej_v (L2.pv 2)) aj_nil))) aj_nil))))))))))
    )
theorem sc__law_about : L2.FnScope ["_law_one"] ["_law_one"] (L2.defScope (topS 49)) := ⟨rfl, rfl, rfl, by decide +kernel, rfl, by decide +kernel, by decide +kernel⟩
theorem ok__law_about {P : Program} {w : World} {K : PySem.W.Frag} {mg : Str → Option Value} {base : Heap} (a__law_about : At K mg "_law_about" "_law_about" (topS 49) ["_law_one"]) :
  DefR P w K mg base 1 "_law_about" ["_law_one"] [false] (defF [false] 1 sf__law_about) :=
  DefR.mk' (k := 0) a__law_about sc__law_about rfl (by decide) (fun f cdv A outer s H E Z H0 io zd zi s0 hr =>
    ((sjs_one (sj_ret (ej_tup (aj_cons (ej_sub ej_int (ej_ix rfl (fun _ _ => rfl) (ej_v (L2.pv 0)) ej_int)) (aj_cons (ej_ix rfl (fun _ _ => rfl) (ej_v (L2.pv 0)) ej_int) aj_nil)) rfl))))
    )
theorem sc_turned_about : L2.FnScope ["body"] ["body"] (L2.defScope (topS 20)) := ⟨rfl, rfl, rfl, by decide +kernel, rfl, by decide +kernel, by decide +kernel⟩
theorem ok_turned_about {P : Program} {w : World} {K : PySem.W.Frag} {mg : Str → Option Value} {base : Heap} (a_turned_about : At K mg "turned_about" "turned_about" (topS 20) ["body"]) (d_minus : Def P w K mg base 3 "minus" ["one", "other"] [false, false] F_minus) (g_NOUGHT : GD K mg "NOUGHT" gv_NOUGHT) :
  DefR P w K mg base 4 "turned_about" ["body"] [false] (defF [false] 1 sf_turned_about) :=
  DefR.mk' (k := 3) a_turned_about sc_turned_about rfl (by decide) (fun f cdv A outer s H E Z H0 io zd zi s0 hr =>
    ((sjs_one (sj_ret (ej_tup (aj_cons (ej_call d_minus (by decide) rfl rfl hr (by decide) (by rfl) (L2.takes_of rfl rfl rfl rfl) (aj_cons (ej_gd rfl rfl (by rfl) g_NOUGHT) (aj_cons (ej_ix rfl (fun _ _ => rfl) (ej_v (L2.pv 0)) ej_int) aj_nil))) (aj_cons (ej_call d_minus (by decide) rfl rfl hr (by decide) (by rfl) (L2.takes_of rfl rfl rfl rfl) (aj_cons (ej_gd rfl rfl (by rfl) g_NOUGHT) (aj_cons (ej_ix rfl (fun _ _ => rfl) (ej_v (L2.pv 0)) ej_int) aj_nil))) (aj_cons (ej_ix rfl (fun _ _ => rfl) (ej_v (L2.pv 0)) ej_int) aj_nil))) rfl))))
    )
theorem sc_mirrored : L2.FnScope ["world", "body"] ["world"] (L2.defScope (topS 21)) := ⟨rfl, rfl, rfl, by decide +kernel, rfl, by decide +kernel, by decide +kernel⟩
theorem ok_mirrored {P : Program} {w : World} {K : PySem.W.Frag} {mg : Str → Option Value} {base : Heap} (a_mirrored : At K mg "mirrored" "mirrored" (topS 21) ["world"]) (d_turned_about : Def P w K mg base 4 "turned_about" ["body"] [false] F_turned_about) (z_reversed : mg "reversed" = none) :
  DefR P w K mg base 5 "mirrored" ["world"] [false] (defF [false] 2 sf_mirrored) :=
  DefR.mk' (k := 4) a_mirrored sc_mirrored rfl (by decide) (fun f cdv A outer s H E Z H0 io zd zi s0 hr =>
    ((sjs_one (sj_ret (ej_lc (own := [("body", 1)]) rfl sc_mirrored.nd (by first | (simp; done) | (simp [frB, frOf, maskAt]; done)) (ij_rev rfl (by rfl) z_reversed (aj_cons (ej_v (L2.pv 0)) aj_nil)) (blk_ok (N := ["world", "body"]) (sc := L2.defScope (topS 21)) rfl rfl (by decide +kernel)) (fun _ _ _ _ _ => (gw_name (by simp) (nm rfl) sc_mirrored.nd rfl (.inl rfl) (.inr rfl))) (fun _ _ _ _ _ => tjs_nil) (fun _ _ _ _ _ => (ej_call d_turned_about (by decide) rfl rfl hr (by decide) (by rfl) L2.takes0 (aj_cons (ej_v (L2.pv 1)) aj_nil)))))))
    )
theorem sc__law_mirror : L2.FnScope ["_law_world_here", "_law_moment", "_law_last", "_law_due", "_law_one"] ["_law_world_here", "_law_moment"] (L2.defScope (topS 50)) := ⟨rfl, rfl, rfl, by decide +kernel, rfl, by decide +kernel, by decide +kernel⟩
theorem ok__law_mirror {P : Program} {w : World} {K : PySem.W.Frag} {mg : Str → Option Value} {base : Heap} (a__law_mirror : At K mg "_law_mirror" "_law_mirror" (topS 50) ["_law_world_here", "_law_moment"]) (d_clumps_at : Def P w K mg base 7 "clumps_at" ["world", "moment"] [false, false] F_clumps_at) (d__law_about : Def P w K mg base 1 "_law_about" ["_law_one"] [false] F__law_about) (d_mirrored : Def P w K mg base 5 "mirrored" ["world"] [false] F_mirrored) (z_len : mg "len" = none) (z_reversed : mg "reversed" = none) :
  DefR P w K mg base 8 "_law_mirror" ["_law_world_here", "_law_moment"] [false, false] (defF [false, false] 5 sf__law_mirror) :=
  DefR.mk' (k := 7) a__law_mirror sc__law_mirror rfl (by decide) (fun f cdv A outer s H E Z H0 io zd zi s0 hr =>
    ((sjs_cons (sj_set (i := 2) (fz := true) (ej_sub (ej_callB L2.call_len lenC_mono (lenC_says rfl) (by rfl) z_len (by decide +kernel) (aj_cons (ej_v (L2.pv 0)) aj_nil)) ej_int) (nm rfl) sc__law_mirror.nd rfl (.inr rfl))
    (sjs_cons (sj_setlc (own := [("_law_one", 4)]) (i := 3) (fz := true) (nm rfl) rfl rfl rfl rfl sc__law_mirror.nd (by first | (simp; done) | (simp [frB, frOf, maskAt]; done)) (ij_rev rfl (by rfl) z_reversed (aj_cons (ej_call d_clumps_at (by decide) rfl rfl hr (by decide) (by rfl) (L2.takes_of rfl rfl rfl rfl) (aj_cons (ej_v (L2.pv 0)) (aj_cons (ej_v (L2.pv 1)) aj_nil))) aj_nil)) (blk_ok (N := ["_law_world_here", "_law_moment", "_law_last", "_law_due", "_law_one"]) (sc := L2.defScope (topS 50)) rfl rfl (by decide +kernel)) (fun _ _ _ _ _ => (gw_name (by simp) (nm rfl) sc__law_mirror.nd rfl (.inl rfl) (.inr rfl))) (fun _ _ _ _ _ => tjs_nil) (fun _ _ _ _ _ => (ej_tup (aj_cons (ej_sub (ej_v (L2.pv 2)) (ej_ix rfl (fun _ _ => rfl) (ej_v (L2.pv 4)) ej_int)) (aj_cons (ej_sub (ej_v (L2.pv 2)) (ej_ix rfl (fun _ _ => rfl) (ej_v (L2.pv 4)) ej_int)) (aj_cons (ej_call d__law_about (by decide) rfl rfl hr (by decide) (by rfl) L2.takes0 (aj_cons (ej_ix rfl (fun _ _ => rfl) (ej_v (L2.pv 4)) ej_int) aj_nil)) (aj_cons (ej_call d__law_about (by decide) rfl rfl hr (by decide) (by rfl) L2.takes0 (aj_cons (ej_ix rfl (fun _ _ => rfl) (ej_v (L2.pv 4)) ej_int) aj_nil)) (aj_cons (ej_ix rfl (fun _ _ => rfl) (ej_v (L2.pv 4)) ej_int) aj_nil))))) rfl)))
    (sjs_one (sj_ret (ej_eq rfl (u128 hr) (ej_call d_clumps_at (by decide) rfl rfl hr (by decide) (by rfl) (L2.takes_of rfl rfl rfl rfl) (aj_cons (ej_call d_mirrored (by decide) rfl rfl hr (by decide) (by rfl) (L2.takes_of rfl rfl rfl rfl) (aj_cons (ej_v (L2.pv 0)) aj_nil)) (aj_cons (ej_v (L2.pv 1)) aj_nil))) (ej_v (L2.pv 3))))))))
    )
theorem sc_law : L2.FnScope ["_law_script", "_law_k", "_law_box_here", "_law_world_here", "_law_some", "_law_first", "_law_second"] ["_law_script"] (L2.defScope (topS 52)) := ⟨rfl, rfl, rfl, by decide +kernel, rfl, by decide +kernel, by decide +kernel⟩
theorem ok_law {P : Program} {w : World} {K : PySem.W.Frag} {mg : Str → Option Value} {base : Heap} (a_law : At K mg "law" "law" (topS 52) ["_law_script"]) (d__law_box : Def P w K mg base 2 "_law_box" ["_law_script", "_law_k"] [false, false] F__law_box) (d__law_world : Def P w K mg base 4 "_law_world" ["_law_box_here"] [true] F__law_world) (d__law_moments : Def P w K mg base 8 "_law_moments" ["_law_box_here", "_law_world_here"] [true, false] F__law_moments) (d__law_take : Def P w K mg base 1 "_law_take" ["_law_box_here", "_law_many"] [true, false] F__law_take) (d__law_on : Def P w K mg base 8 "_law_on" ["_law_world_here", "_law_first", "_law_second"] [false, false, false] F__law_on) (d__law_mirror : Def P w K mg base 8 "_law_mirror" ["_law_world_here", "_law_moment"] [false, false] F__law_mirror) (d__law_seen : Def P w K mg base 8 "_law_seen" ["_law_world_here", "_law_speed", "_law_moment"] [false, false, false] F__law_seen) (d__law_small : Def P w K mg base 2 "_law_small" ["_law_box_here"] [true] F__law_small) (z_len : mg "len" = none) (z_max : mg "max" = none) (z_min : mg "min" = none) (z_range : mg "range" = none) :
  DefR P w K mg base 9 "law" ["_law_script"] [false] (defF [false] 7 sf_law) :=
  DefR.mk' (k := 8) a_law sc_law rfl (by decide) (fun f cdv A outer s H E Z H0 io zd zi s0 hr =>
    ((sjs_cons (sj_for (L2.passes_of rfl) rfl (ij_range1 (by rfl) z_range (aj_cons (ej_callB (L2.call_max2 rfl) mmC_mono maxC_says (by rfl) z_max (by decide +kernel) (aj_cons ej_int (aj_cons (ej_callB (L2.call_min2 rfl) mmC_mono minC_says (by rfl) z_min (by decide +kernel) (aj_cons (ej_callB L2.call_len lenC_mono (lenC_says rfl) (by rfl) z_len (by decide +kernel) (aj_cons (ej_v (L2.pv 0)) aj_nil)) (aj_cons ej_int aj_nil))) aj_nil))) aj_nil)) (gj_name (nm rfl) sc_law.nd rfl (.inl rfl)) (sjs_cons (sj_set (i := 2) (fz := false) (ej_call d__law_box (by decide) rfl rfl hr (by decide) (by rfl) (L2.takes_of rfl rfl rfl rfl) (aj_cons (ej_v (L2.pv 0)) (aj_cons (ej_v (L2.pv 1)) aj_nil))) (nm rfl) sc_law.nd rfl (.inl rfl))
    (sjs_cons (sj_set (i := 3) (fz := true) (ej_callI (i := 2) (kk := 0) (mm := 0) d__law_world rfl rfl rfl hr (by decide) (by rfl) (L2.takes_of rfl rfl rfl rfl) (aji_here (L2.pv 2) aj_nil)) (nm rfl) sc_law.nd rfl (.inl rfl))
    (sjs_cons (sj_set (i := 4) (fz := true) (ej_callI (i := 2) (kk := 0) (mm := 1) d__law_moments rfl rfl rfl hr (by decide) (by rfl) (L2.takes_of rfl rfl rfl rfl) (aji_here (L2.pv 2) (aj_cons (ej_v (L2.pv 3)) aj_nil))) (nm rfl) sc_law.nd rfl (.inl rfl))
    (sjs_cons (sj_set (i := 5) (fz := true) (ej_ix rfl (fun _ _ => rfl) (ej_v (L2.pv 4)) (ej_callI (i := 2) (kk := 0) (mm := 1) d__law_take rfl rfl rfl hr (by decide) (by rfl) (L2.takes_of rfl rfl rfl rfl) (aji_here (L2.pv 2) (aj_cons (ej_callB L2.call_len lenC_mono (lenC_says rfl) (by rfl) z_len (by decide +kernel) (aj_cons (ej_v (L2.pv 4)) aj_nil)) aj_nil)))) (nm rfl) sc_law.nd rfl (.inl rfl))
    (sjs_cons (sj_set (i := 6) (fz := true) (ej_ix rfl (fun _ _ => rfl) (ej_v (L2.pv 4)) (ej_callI (i := 2) (kk := 0) (mm := 1) d__law_take rfl rfl rfl hr (by decide) (by rfl) (L2.takes_of rfl rfl rfl rfl) (aji_here (L2.pv 2) (aj_cons (ej_callB L2.call_len lenC_mono (lenC_says rfl) (by rfl) z_len (by decide +kernel) (aj_cons (ej_v (L2.pv 4)) aj_nil)) aj_nil)))) (nm rfl) sc_law.nd rfl (.inl rfl))
    (sjs_cons (sj_if ((wj_or (tj_not (tj_val (ej_call d__law_on (by decide) rfl rfl hr (by decide) (by rfl) (L2.takes_of rfl rfl rfl rfl) (aj_cons (ej_v (L2.pv 3)) (aj_cons (ej_v (L2.pv 5)) (aj_cons (ej_v (L2.pv 6)) aj_nil)))))) (wj_or1 (tj_not (tj_val (ej_call d__law_mirror (by decide) rfl rfl hr (by decide) (by rfl) (L2.takes_of rfl rfl rfl rfl) (aj_cons (ej_v (L2.pv 3)) (aj_cons (ej_v (L2.pv 5)) aj_nil)))))))).tj (sjs_one (sj_ret ej_bl)) sjs_nil)
    (sjs_one (sj_if (tj_not (tj_val (ej_call d__law_seen (by decide) rfl rfl hr (by decide) (by rfl) (L2.takes_of rfl rfl rfl rfl) (aj_cons (ej_v (L2.pv 3)) (aj_cons (ej_callI (i := 2) (kk := 0) (mm := 0) d__law_small rfl rfl rfl hr (by decide) (by rfl) (L2.takes_of rfl rfl rfl rfl) (aji_here (L2.pv 2) aj_nil)) (aj_cons (ej_v (L2.pv 6)) aj_nil)))))) (sjs_one (sj_ret ej_bl)) sjs_nil)))))))))
    (sjs_one (sj_ret ej_bl))))
    )
theorem law_def {P : Program} {w : World} {K : PySem.W.Frag} {mg : Str → Option Value} (base : Heap) (a__law_cell : At K mg "_law_cell" "_law_cell" (topS 35) ["_law_script", "_law_k"]) (z_len : mg "len" = none) (a__law_mix : At K mg "_law_mix" "_law_mix" (topS 36) ["_law_cell_here", "_law_k"]) (a__law_box : At K mg "_law_box" "_law_box" (topS 37) ["_law_script", "_law_k"]) (z_range : mg "range" = none) (a__law_fit : At K mg "_law_fit" "_law_fit" (topS 39) ["_law_top", "_law_bottom"]) (z_abs : mg "abs" = none) (a__law_take : At K mg "_law_take" "_law_take" (topS 38) ["_law_box_here", "_law_many"]) (z_divmod : mg "divmod" = none) (a__law_small : At K mg "_law_small" "_law_small" (topS 44) ["_law_box_here"]) (a__law_plus : At K mg "_law_plus" "_law_plus" (topS 40) ["_law_one", "_law_other"]) (a__law_minus : At K mg "_law_minus" "_law_minus" (topS 41) ["_law_one", "_law_other"]) (a__law_over : At K mg "_law_over" "_law_over" (topS 43) ["_law_one", "_law_other"]) (a__law_led_together : At K mg "_law_led_together" "_law_led_together" (topS 46) ["_law_box_here", "_law_world_here"]) (z_enumerate : mg "enumerate" = none) (a__law_world : At K mg "_law_world" "_law_world" (topS 45) ["_law_box_here"]) (a_first_clumps : At K mg "first_clumps" "first_clumps" (topS 25) ["world"]) (a_under : At K mg "under" "under" (topS 14) ["one", "other"]) (a_least_of : At K mg "least_of" "least_of" (topS 17) ["some"]) (a_divisor : At K mg "divisor" "divisor" (topS 8) ["one", "other"]) (a_size_of : At K mg "size_of" "size_of" (topS 7) ["number"]) (a_is_whole : At K mg "is_whole" "is_whole" (topS 6) ["thing"]) (z_bool : mg "bool" = none) (z_int : mg "int" = none) (z_isinstance : mg "isinstance" = none) (a_fraction : At K mg "fraction" "fraction" (topS 9) ["top", "bottom"]) (x_NoNumber : XCls K mg "NoNumber") (a_plus : At K mg "plus" "plus" (topS 10) ["one", "other"]) (a_over : At K mg "over" "over" (topS 13) ["one", "other"]) (a_minus : At K mg "minus" "minus" (topS 11) ["one", "other"]) (a_time_to : At K mg "time_to" "time_to" (topS 16) ["one", "other"]) (a_times_on : At K mg "times_on" "times_on" (topS 28) ["clumps"]) (a_next_moment : At K mg "next_moment" "next_moment" (topS 30) ["clumps", "now"]) (a_times : At K mg "times" "times" (topS 12) ["one", "other"]) (a_led_on : At K mg "led_on" "led_on" (topS 26) ["clumps", "time"]) (a_joined : At K mg "joined" "joined" (topS 27) ["one", "other"]) (a_stuck_together : At K mg "stuck_together" "stuck_together" (topS 29) ["clumps"]) (a_stuck_on : At K mg "stuck_on" "stuck_on" (topS 31) ["clumps", "now", "moment"]) (a_stuck_run : At K mg "stuck_run" "stuck_run" (topS 32) ["world"]) (g_NOUGHT : GD K mg "NOUGHT" gv_NOUGHT) (a__law_times : At K mg "_law_times" "_law_times" (topS 42) ["_law_one", "_law_other"]) (a__law_moments : At K mg "_law_moments" "_law_moments" (topS 47) ["_law_box_here", "_law_world_here"]) (a_seen_from : At K mg "seen_from" "seen_from" (topS 19) ["body", "speed"]) (a_need_moment : At K mg "need_moment" "need_moment" (topS 23) ["moment"]) (x_NoMoment : XCls K mg "NoMoment") (a_clumps_at : At K mg "clumps_at" "clumps_at" (topS 33) ["world", "moment"]) (a__law_seen : At K mg "_law_seen" "_law_seen" (topS 51) ["_law_world_here", "_law_speed", "_law_moment"]) (a__law_on : At K mg "_law_on" "_law_on" (topS 48) ["_law_world_here", "_law_first", "_law_second"]) (a__law_about : At K mg "_law_about" "_law_about" (topS 49) ["_law_one"]) (a_turned_about : At K mg "turned_about" "turned_about" (topS 20) ["body"]) (a_mirrored : At K mg "mirrored" "mirrored" (topS 21) ["world"]) (z_reversed : mg "reversed" = none) (a__law_mirror : At K mg "_law_mirror" "_law_mirror" (topS 50) ["_law_world_here", "_law_moment"]) (a_law : At K mg "law" "law" (topS 52) ["_law_script"]) (z_max : mg "max" = none) (z_min : mg "min" = none) :
  Def P w K mg base 9 "law" ["_law_script"] [false] F_law := by
  have d__law_cell := (ok__law_cell (P := P) (w := w) (base := base) a__law_cell z_len).def m__law_cell to__law_cell defF_len
  have d__law_mix := (ok__law_mix (P := P) (w := w) (base := base) a__law_mix ).def m__law_mix to__law_mix defF_len
  have d__law_box := (ok__law_box (P := P) (w := w) (base := base) a__law_box d__law_cell d__law_mix z_range).def m__law_box to__law_box defF_len
  have d__law_fit := (ok__law_fit (P := P) (w := w) (base := base) a__law_fit z_abs).def m__law_fit to__law_fit defF_len
  have d__law_take := (ok__law_take (P := P) (w := w) (base := base) a__law_take z_divmod).def m__law_take to__law_take defF_len
  have d__law_small := (ok__law_small (P := P) (w := w) (base := base) a__law_small d__law_fit d__law_take).def m__law_small to__law_small defF_len
  have d__law_plus := (ok__law_plus (P := P) (w := w) (base := base) a__law_plus d__law_fit).def m__law_plus to__law_plus defF_len
  have d__law_minus := (ok__law_minus (P := P) (w := w) (base := base) a__law_minus d__law_fit).def m__law_minus to__law_minus defF_len
  have d__law_over := (ok__law_over (P := P) (w := w) (base := base) a__law_over d__law_fit).def m__law_over to__law_over defF_len
  have d__law_led_together := (ok__law_led_together (P := P) (w := w) (base := base) a__law_led_together d__law_take d__law_fit d__law_plus d__law_small d__law_minus d__law_over z_enumerate z_len).def m__law_led_together to__law_led_together defF_len
  have d__law_world := (ok__law_world (P := P) (w := w) (base := base) a__law_world d__law_small d__law_take d__law_plus d__law_fit d__law_led_together z_range).def m__law_world to__law_world defF_len
  have d_first_clumps := (ok_first_clumps (P := P) (w := w) (base := base) a_first_clumps z_enumerate).def m_first_clumps to_first_clumps defF_len
  have d_under := (ok_under (P := P) (w := w) (base := base) a_under ).def m_under to_under defF_len
  have d_least_of := (ok_least_of (P := P) (w := w) (base := base) a_least_of d_under).def m_least_of to_least_of defF_len
  have d_divisor := (ok_divisor (P := P) (w := w) (base := base) a_divisor ).def m_divisor to_divisor defF_len
  have d_size_of := (ok_size_of (P := P) (w := w) (base := base) a_size_of ).def m_size_of to_size_of defF_len
  have d_is_whole := (ok_is_whole (P := P) (w := w) (base := base) a_is_whole z_bool z_int z_isinstance).def m_is_whole to_is_whole defF_len
  have d_fraction := (ok_fraction (P := P) (w := w) (base := base) a_fraction d_is_whole x_NoNumber d_divisor d_size_of).def m_fraction to_fraction defF_len
  have d_plus := (ok_plus (P := P) (w := w) (base := base) a_plus d_fraction).def m_plus to_plus defF_len
  have d_over := (ok_over (P := P) (w := w) (base := base) a_over d_fraction).def m_over to_over defF_len
  have d_minus := (ok_minus (P := P) (w := w) (base := base) a_minus d_fraction).def m_minus to_minus defF_len
  have d_time_to := (ok_time_to (P := P) (w := w) (base := base) a_time_to d_under d_over d_minus).def m_time_to to_time_to defF_len
  have d_times_on := (ok_times_on (P := P) (w := w) (base := base) a_times_on d_time_to z_len z_range).def m_times_on to_times_on defF_len
  have d_next_moment := (ok_next_moment (P := P) (w := w) (base := base) a_next_moment d_least_of d_times_on d_plus).def m_next_moment to_next_moment defF_len
  have d_times := (ok_times (P := P) (w := w) (base := base) a_times d_fraction).def m_times to_times defF_len
  have d_led_on := (ok_led_on (P := P) (w := w) (base := base) a_led_on d_plus d_times).def m_led_on to_led_on defF_len
  have d_joined := (ok_joined (P := P) (w := w) (base := base) a_joined d_plus d_times d_fraction d_over).def m_joined to_joined defF_len
  have d_stuck_together := (ok_stuck_together (P := P) (w := w) (base := base) a_stuck_together d_joined).def m_stuck_together to_stuck_together defF_len
  have d_stuck_on := (ok_stuck_on (P := P) (w := w) (base := base) a_stuck_on d_led_on d_minus d_stuck_together).def m_stuck_on to_stuck_on defF_len
  have d_stuck_run := (ok_stuck_run (P := P) (w := w) (base := base) a_stuck_run d_first_clumps g_NOUGHT d_next_moment d_stuck_on).def m_stuck_run to_stuck_run defF_len
  have d__law_times := (ok__law_times (P := P) (w := w) (base := base) a__law_times d__law_fit).def m__law_times to__law_times defF_len
  have d__law_moments := (ok__law_moments (P := P) (w := w) (base := base) a__law_moments d_stuck_run d__law_fit d__law_take d__law_plus d__law_times z_len).def m__law_moments to__law_moments defF_len
  have d_seen_from := (ok_seen_from (P := P) (w := w) (base := base) a_seen_from d_minus).def m_seen_from to_seen_from defF_len
  have d_need_moment := (ok_need_moment (P := P) (w := w) (base := base) a_need_moment d_under g_NOUGHT x_NoMoment).def m_need_moment to_need_moment defF_len
  have d_clumps_at := (ok_clumps_at (P := P) (w := w) (base := base) a_clumps_at d_need_moment d_first_clumps g_NOUGHT d_next_moment d_under d_stuck_on d_led_on d_minus).def m_clumps_at to_clumps_at defF_len
  have d__law_seen := (ok__law_seen (P := P) (w := w) (base := base) a__law_seen d_seen_from d__law_times d_clumps_at d__law_minus d_stuck_run).def m__law_seen to__law_seen defF_len
  have d__law_on := (ok__law_on (P := P) (w := w) (base := base) a__law_on d_clumps_at d__law_plus).def m__law_on to__law_on defF_len
  have d__law_about := (ok__law_about (P := P) (w := w) (base := base) a__law_about ).def m__law_about to__law_about defF_len
  have d_turned_about := (ok_turned_about (P := P) (w := w) (base := base) a_turned_about d_minus g_NOUGHT).def m_turned_about to_turned_about defF_len
  have d_mirrored := (ok_mirrored (P := P) (w := w) (base := base) a_mirrored d_turned_about z_reversed).def m_mirrored to_mirrored defF_len
  have d__law_mirror := (ok__law_mirror (P := P) (w := w) (base := base) a__law_mirror d_clumps_at d__law_about d_mirrored z_len z_reversed).def m__law_mirror to__law_mirror defF_len
  have d_law := (ok_law (P := P) (w := w) (base := base) a_law d__law_box d__law_world d__law_moments d__law_take d__law_on d__law_mirror d__law_seen d__law_small z_len z_max z_min z_range).def m_law to_law defF_len
  exact d_law
def dd__law_cell : He.DefD := ⟨("_law_cell", none), "_law_cell", "_law_cell", L2.defArgs (topS 35), L2.defBody (topS 35), L2.defScope (topS 35), [], []⟩
def dd__law_mix : He.DefD := ⟨("_law_mix", none), "_law_mix", "_law_mix", L2.defArgs (topS 36), L2.defBody (topS 36), L2.defScope (topS 36), [], []⟩
def dd__law_box : He.DefD := ⟨("_law_box", none), "_law_box", "_law_box", L2.defArgs (topS 37), L2.defBody (topS 37), L2.defScope (topS 37), [], []⟩
def dd__law_fit : He.DefD := ⟨("_law_fit", none), "_law_fit", "_law_fit", L2.defArgs (topS 39), L2.defBody (topS 39), L2.defScope (topS 39), [], []⟩
def dd__law_take : He.DefD := ⟨("_law_take", none), "_law_take", "_law_take", L2.defArgs (topS 38), L2.defBody (topS 38), L2.defScope (topS 38), [], []⟩
def dd__law_small : He.DefD := ⟨("_law_small", none), "_law_small", "_law_small", L2.defArgs (topS 44), L2.defBody (topS 44), L2.defScope (topS 44), [], []⟩
def dd__law_plus : He.DefD := ⟨("_law_plus", none), "_law_plus", "_law_plus", L2.defArgs (topS 40), L2.defBody (topS 40), L2.defScope (topS 40), [], []⟩
def dd__law_minus : He.DefD := ⟨("_law_minus", none), "_law_minus", "_law_minus", L2.defArgs (topS 41), L2.defBody (topS 41), L2.defScope (topS 41), [], []⟩
def dd__law_over : He.DefD := ⟨("_law_over", none), "_law_over", "_law_over", L2.defArgs (topS 43), L2.defBody (topS 43), L2.defScope (topS 43), [], []⟩
def dd__law_led_together : He.DefD := ⟨("_law_led_together", none), "_law_led_together", "_law_led_together", L2.defArgs (topS 46), L2.defBody (topS 46), L2.defScope (topS 46), [], []⟩
def dd__law_world : He.DefD := ⟨("_law_world", none), "_law_world", "_law_world", L2.defArgs (topS 45), L2.defBody (topS 45), L2.defScope (topS 45), [], []⟩
def dd_first_clumps : He.DefD := ⟨("first_clumps", none), "first_clumps", "first_clumps", L2.defArgs (topS 25), L2.defBody (topS 25), L2.defScope (topS 25), [], []⟩
def dd_under : He.DefD := ⟨("under", none), "under", "under", L2.defArgs (topS 14), L2.defBody (topS 14), L2.defScope (topS 14), [], []⟩
def dd_least_of : He.DefD := ⟨("least_of", none), "least_of", "least_of", L2.defArgs (topS 17), L2.defBody (topS 17), L2.defScope (topS 17), [], []⟩
def dd_divisor : He.DefD := ⟨("divisor", none), "divisor", "divisor", L2.defArgs (topS 8), L2.defBody (topS 8), L2.defScope (topS 8), [], []⟩
def dd_size_of : He.DefD := ⟨("size_of", none), "size_of", "size_of", L2.defArgs (topS 7), L2.defBody (topS 7), L2.defScope (topS 7), [], []⟩
def dd_is_whole : He.DefD := ⟨("is_whole", none), "is_whole", "is_whole", L2.defArgs (topS 6), L2.defBody (topS 6), L2.defScope (topS 6), [], []⟩
def dd_fraction : He.DefD := ⟨("fraction", none), "fraction", "fraction", L2.defArgs (topS 9), L2.defBody (topS 9), L2.defScope (topS 9), [.int (1)], []⟩
def dd_plus : He.DefD := ⟨("plus", none), "plus", "plus", L2.defArgs (topS 10), L2.defBody (topS 10), L2.defScope (topS 10), [], []⟩
def dd_over : He.DefD := ⟨("over", none), "over", "over", L2.defArgs (topS 13), L2.defBody (topS 13), L2.defScope (topS 13), [], []⟩
def dd_minus : He.DefD := ⟨("minus", none), "minus", "minus", L2.defArgs (topS 11), L2.defBody (topS 11), L2.defScope (topS 11), [], []⟩
def dd_time_to : He.DefD := ⟨("time_to", none), "time_to", "time_to", L2.defArgs (topS 16), L2.defBody (topS 16), L2.defScope (topS 16), [], []⟩
def dd_times_on : He.DefD := ⟨("times_on", none), "times_on", "times_on", L2.defArgs (topS 28), L2.defBody (topS 28), L2.defScope (topS 28), [], []⟩
def dd_next_moment : He.DefD := ⟨("next_moment", none), "next_moment", "next_moment", L2.defArgs (topS 30), L2.defBody (topS 30), L2.defScope (topS 30), [], []⟩
def dd_times : He.DefD := ⟨("times", none), "times", "times", L2.defArgs (topS 12), L2.defBody (topS 12), L2.defScope (topS 12), [], []⟩
def dd_led_on : He.DefD := ⟨("led_on", none), "led_on", "led_on", L2.defArgs (topS 26), L2.defBody (topS 26), L2.defScope (topS 26), [], []⟩
def dd_joined : He.DefD := ⟨("joined", none), "joined", "joined", L2.defArgs (topS 27), L2.defBody (topS 27), L2.defScope (topS 27), [], []⟩
def dd_stuck_together : He.DefD := ⟨("stuck_together", none), "stuck_together", "stuck_together", L2.defArgs (topS 29), L2.defBody (topS 29), L2.defScope (topS 29), [], []⟩
def dd_stuck_on : He.DefD := ⟨("stuck_on", none), "stuck_on", "stuck_on", L2.defArgs (topS 31), L2.defBody (topS 31), L2.defScope (topS 31), [], []⟩
def dd_stuck_run : He.DefD := ⟨("stuck_run", none), "stuck_run", "stuck_run", L2.defArgs (topS 32), L2.defBody (topS 32), L2.defScope (topS 32), [], []⟩
def dd__law_times : He.DefD := ⟨("_law_times", none), "_law_times", "_law_times", L2.defArgs (topS 42), L2.defBody (topS 42), L2.defScope (topS 42), [], []⟩
def dd__law_moments : He.DefD := ⟨("_law_moments", none), "_law_moments", "_law_moments", L2.defArgs (topS 47), L2.defBody (topS 47), L2.defScope (topS 47), [], []⟩
def dd_seen_from : He.DefD := ⟨("seen_from", none), "seen_from", "seen_from", L2.defArgs (topS 19), L2.defBody (topS 19), L2.defScope (topS 19), [], []⟩
def dd_need_moment : He.DefD := ⟨("need_moment", none), "need_moment", "need_moment", L2.defArgs (topS 23), L2.defBody (topS 23), L2.defScope (topS 23), [], []⟩
def dd_clumps_at : He.DefD := ⟨("clumps_at", none), "clumps_at", "clumps_at", L2.defArgs (topS 33), L2.defBody (topS 33), L2.defScope (topS 33), [], []⟩
def dd__law_seen : He.DefD := ⟨("_law_seen", none), "_law_seen", "_law_seen", L2.defArgs (topS 51), L2.defBody (topS 51), L2.defScope (topS 51), [], []⟩
def dd__law_on : He.DefD := ⟨("_law_on", none), "_law_on", "_law_on", L2.defArgs (topS 48), L2.defBody (topS 48), L2.defScope (topS 48), [], []⟩
def dd__law_about : He.DefD := ⟨("_law_about", none), "_law_about", "_law_about", L2.defArgs (topS 49), L2.defBody (topS 49), L2.defScope (topS 49), [], []⟩
def dd_turned_about : He.DefD := ⟨("turned_about", none), "turned_about", "turned_about", L2.defArgs (topS 20), L2.defBody (topS 20), L2.defScope (topS 20), [], []⟩
def dd_mirrored : He.DefD := ⟨("mirrored", none), "mirrored", "mirrored", L2.defArgs (topS 21), L2.defBody (topS 21), L2.defScope (topS 21), [], []⟩
def dd__law_mirror : He.DefD := ⟨("_law_mirror", none), "_law_mirror", "_law_mirror", L2.defArgs (topS 50), L2.defBody (topS 50), L2.defScope (topS 50), [], []⟩
def dd_law : He.DefD := ⟨("law", none), "law", "law", L2.defArgs (topS 52), L2.defBody (topS 52), L2.defScope (topS 52), [], []⟩
def fn : List He.DefD := [dd__law_cell, dd__law_mix, dd__law_box, dd__law_fit, dd__law_take, dd__law_small, dd__law_plus, dd__law_minus, dd__law_over, dd__law_led_together, dd__law_world, dd_first_clumps, dd_under, dd_least_of, dd_divisor, dd_size_of, dd_is_whole, dd_fraction, dd_plus, dd_over, dd_minus, dd_time_to, dd_times_on, dd_next_moment, dd_times, dd_led_on, dd_joined, dd_stuck_together, dd_stuck_on, dd_stuck_run, dd__law_times, dd__law_moments, dd_seen_from, dd_need_moment, dd_clumps_at, dd__law_seen, dd__law_on, dd__law_about, dd_turned_about, dd_mirrored, dd__law_mirror, dd_law]
def gs : List (Str × D) := [("NOUGHT", gv_NOUGHT)]
def xb : List Xb := []
def xa : List Xa := []
def fa : List He.Fa := [.glo "_law_cell", .glo "_law_mix", .glo "_law_box", .glo "_law_fit", .glo "_law_take", .glo "_law_small", .glo "_law_plus", .glo "_law_minus", .glo "_law_over", .glo "_law_led_together", .glo "_law_world", .glo "first_clumps", .glo "under", .glo "least_of", .glo "divisor", .glo "size_of", .glo "is_whole", .glo "fraction", .glo "plus", .glo "over", .glo "minus", .glo "time_to", .glo "times_on", .glo "next_moment", .glo "times", .glo "led_on", .glo "joined", .glo "stuck_together", .glo "stuck_on", .glo "stuck_run", .glo "_law_times", .glo "_law_moments", .glo "seen_from", .glo "need_moment", .glo "clumps_at", .glo "_law_seen", .glo "_law_on", .glo "_law_about", .glo "turned_about", .glo "mirrored", .glo "_law_mirror", .glo "law", .free "len", .free "range", .free "abs", .free "divmod", .free "enumerate", .free "bool", .free "int", .free "isinstance", .free "reversed", .free "max", .free "min", .glo "NoNumber", .exc "NoNumber", .glo "NoMoment", .exc "NoMoment"]
abbrev R : PySem.W.OpenRow := PySem.W.OpenLaw.row PySem.Challenge.rw_knockwright_k85_whole_clumps_gone_on
abbrev hk : PySem.W.Hook := hookY 4 fa fn gs xa xb
def ob (s : PySem.W.SharedT) : AlY := obsY 4 fa fn gs xa xb (HandSHeadRun.getT s)
theorem ob_eq (s : PySem.W.SharedT) : ob s = hk.obs s.abs := obsY_eq (HandSHeadRun.getT_eq s)
abbrev loose : List Str := [Str.ofString "KnockError", Str.ofString "NoNumber", Str.ofString "NoMoment", Str.ofString "NOUGHT", Str.ofString "is_whole", Str.ofString "size_of", Str.ofString "divisor", Str.ofString "fraction", Str.ofString "plus", Str.ofString "minus", Str.ofString "times", Str.ofString "over", Str.ofString "under", Str.ofString "time_to", Str.ofString "least_of", Str.ofString "seen_from", Str.ofString "turned_about", Str.ofString "mirrored", Str.ofString "need_moment", Str.ofString "first_clumps", Str.ofString "led_on", Str.ofString "joined", Str.ofString "times_on", Str.ofString "stuck_together", Str.ofString "next_moment", Str.ofString "stuck_on", Str.ofString "stuck_run", Str.ofString "clumps_at", Str.ofString "_law_cell", Str.ofString "_law_mix", Str.ofString "_law_box", Str.ofString "_law_take", Str.ofString "_law_fit", Str.ofString "_law_plus", Str.ofString "_law_minus", Str.ofString "_law_times", Str.ofString "_law_over", Str.ofString "_law_small", Str.ofString "_law_world", Str.ofString "_law_led_together", Str.ofString "_law_moments", Str.ofString "_law_on", Str.ofString "_law_about", Str.ofString "_law_mirror", Str.ofString "_law_seen"]
theorem run (w : World) : HandSHeadRun.RunEq R (PySem.W.view R.prog [52]) hk ob 3000 loose w := by
  intro os
  kernel_rfl
theorem law_all {w : World} {K : PySem.W.Frag} {h : Heap} {mg : Str → Option Value} {fa0 : Addr} (X : K.In h) (G : h.Ns mainGlobals mg) (hfa : mg "law" = some (.ref fa0)) (c000 : SaysY' fa fn gs xa xb K) :
    LamX.LawAtS PySem.Challenge.rw_knockwright_k85_whole_clumps_gone_on w K (L2.CX PySem.Challenge.pw_knockwright_k85_whole_clumps_gone_on w) 9 63 "_law_script" mg fa0 h := by
  have c00 := c000.1
  have c0 := c00.1
  have c := c0.1
  have a__law_cell : At K mg "_law_cell" "_law_cell" (topS 35) ["_law_script", "_law_k"] := by
    obtain ⟨fd, F⟩ := c.def_ 0 (d := dd__law_cell) rfl
    exact ⟨_, fd, [], [], F, He.glo_ok X G (c.fact 0 (f := .glo "_law_cell") rfl), L2.FunD.bindsN F fun _ _ _ _ _ _ us hl => match us, hl with | [_, _], _ => rfl⟩
  have a__law_mix : At K mg "_law_mix" "_law_mix" (topS 36) ["_law_cell_here", "_law_k"] := by
    obtain ⟨fd, F⟩ := c.def_ 1 (d := dd__law_mix) rfl
    exact ⟨_, fd, [], [], F, He.glo_ok X G (c.fact 1 (f := .glo "_law_mix") rfl), L2.FunD.bindsN F fun _ _ _ _ _ _ us hl => match us, hl with | [_, _], _ => rfl⟩
  have a__law_box : At K mg "_law_box" "_law_box" (topS 37) ["_law_script", "_law_k"] := by
    obtain ⟨fd, F⟩ := c.def_ 2 (d := dd__law_box) rfl
    exact ⟨_, fd, [], [], F, He.glo_ok X G (c.fact 2 (f := .glo "_law_box") rfl), L2.FunD.bindsN F fun _ _ _ _ _ _ us hl => match us, hl with | [_, _], _ => rfl⟩
  have a__law_fit : At K mg "_law_fit" "_law_fit" (topS 39) ["_law_top", "_law_bottom"] := by
    obtain ⟨fd, F⟩ := c.def_ 3 (d := dd__law_fit) rfl
    exact ⟨_, fd, [], [], F, He.glo_ok X G (c.fact 3 (f := .glo "_law_fit") rfl), L2.FunD.bindsN F fun _ _ _ _ _ _ us hl => match us, hl with | [_, _], _ => rfl⟩
  have a__law_take : At K mg "_law_take" "_law_take" (topS 38) ["_law_box_here", "_law_many"] := by
    obtain ⟨fd, F⟩ := c.def_ 4 (d := dd__law_take) rfl
    exact ⟨_, fd, [], [], F, He.glo_ok X G (c.fact 4 (f := .glo "_law_take") rfl), L2.FunD.bindsN F fun _ _ _ _ _ _ us hl => match us, hl with | [_, _], _ => rfl⟩
  have a__law_small : At K mg "_law_small" "_law_small" (topS 44) ["_law_box_here"] := by
    obtain ⟨fd, F⟩ := c.def_ 5 (d := dd__law_small) rfl
    exact ⟨_, fd, [], [], F, He.glo_ok X G (c.fact 5 (f := .glo "_law_small") rfl), L2.FunD.bindsN F fun _ _ _ _ _ _ us hl => match us, hl with | [_], _ => rfl⟩
  have a__law_plus : At K mg "_law_plus" "_law_plus" (topS 40) ["_law_one", "_law_other"] := by
    obtain ⟨fd, F⟩ := c.def_ 6 (d := dd__law_plus) rfl
    exact ⟨_, fd, [], [], F, He.glo_ok X G (c.fact 6 (f := .glo "_law_plus") rfl), L2.FunD.bindsN F fun _ _ _ _ _ _ us hl => match us, hl with | [_, _], _ => rfl⟩
  have a__law_minus : At K mg "_law_minus" "_law_minus" (topS 41) ["_law_one", "_law_other"] := by
    obtain ⟨fd, F⟩ := c.def_ 7 (d := dd__law_minus) rfl
    exact ⟨_, fd, [], [], F, He.glo_ok X G (c.fact 7 (f := .glo "_law_minus") rfl), L2.FunD.bindsN F fun _ _ _ _ _ _ us hl => match us, hl with | [_, _], _ => rfl⟩
  have a__law_over : At K mg "_law_over" "_law_over" (topS 43) ["_law_one", "_law_other"] := by
    obtain ⟨fd, F⟩ := c.def_ 8 (d := dd__law_over) rfl
    exact ⟨_, fd, [], [], F, He.glo_ok X G (c.fact 8 (f := .glo "_law_over") rfl), L2.FunD.bindsN F fun _ _ _ _ _ _ us hl => match us, hl with | [_, _], _ => rfl⟩
  have a__law_led_together : At K mg "_law_led_together" "_law_led_together" (topS 46) ["_law_box_here", "_law_world_here"] := by
    obtain ⟨fd, F⟩ := c.def_ 9 (d := dd__law_led_together) rfl
    exact ⟨_, fd, [], [], F, He.glo_ok X G (c.fact 9 (f := .glo "_law_led_together") rfl), L2.FunD.bindsN F fun _ _ _ _ _ _ us hl => match us, hl with | [_, _], _ => rfl⟩
  have a__law_world : At K mg "_law_world" "_law_world" (topS 45) ["_law_box_here"] := by
    obtain ⟨fd, F⟩ := c.def_ 10 (d := dd__law_world) rfl
    exact ⟨_, fd, [], [], F, He.glo_ok X G (c.fact 10 (f := .glo "_law_world") rfl), L2.FunD.bindsN F fun _ _ _ _ _ _ us hl => match us, hl with | [_], _ => rfl⟩
  have a_first_clumps : At K mg "first_clumps" "first_clumps" (topS 25) ["world"] := by
    obtain ⟨fd, F⟩ := c.def_ 11 (d := dd_first_clumps) rfl
    exact ⟨_, fd, [], [], F, He.glo_ok X G (c.fact 11 (f := .glo "first_clumps") rfl), L2.FunD.bindsN F fun _ _ _ _ _ _ us hl => match us, hl with | [_], _ => rfl⟩
  have a_under : At K mg "under" "under" (topS 14) ["one", "other"] := by
    obtain ⟨fd, F⟩ := c.def_ 12 (d := dd_under) rfl
    exact ⟨_, fd, [], [], F, He.glo_ok X G (c.fact 12 (f := .glo "under") rfl), L2.FunD.bindsN F fun _ _ _ _ _ _ us hl => match us, hl with | [_, _], _ => rfl⟩
  have a_least_of : At K mg "least_of" "least_of" (topS 17) ["some"] := by
    obtain ⟨fd, F⟩ := c.def_ 13 (d := dd_least_of) rfl
    exact ⟨_, fd, [], [], F, He.glo_ok X G (c.fact 13 (f := .glo "least_of") rfl), L2.FunD.bindsN F fun _ _ _ _ _ _ us hl => match us, hl with | [_], _ => rfl⟩
  have a_divisor : At K mg "divisor" "divisor" (topS 8) ["one", "other"] := by
    obtain ⟨fd, F⟩ := c.def_ 14 (d := dd_divisor) rfl
    exact ⟨_, fd, [], [], F, He.glo_ok X G (c.fact 14 (f := .glo "divisor") rfl), L2.FunD.bindsN F fun _ _ _ _ _ _ us hl => match us, hl with | [_, _], _ => rfl⟩
  have a_size_of : At K mg "size_of" "size_of" (topS 7) ["number"] := by
    obtain ⟨fd, F⟩ := c.def_ 15 (d := dd_size_of) rfl
    exact ⟨_, fd, [], [], F, He.glo_ok X G (c.fact 15 (f := .glo "size_of") rfl), L2.FunD.bindsN F fun _ _ _ _ _ _ us hl => match us, hl with | [_], _ => rfl⟩
  have a_is_whole : At K mg "is_whole" "is_whole" (topS 6) ["thing"] := by
    obtain ⟨fd, F⟩ := c.def_ 16 (d := dd_is_whole) rfl
    exact ⟨_, fd, [], [], F, He.glo_ok X G (c.fact 16 (f := .glo "is_whole") rfl), L2.FunD.bindsN F fun _ _ _ _ _ _ us hl => match us, hl with | [_], _ => rfl⟩
  have a_fraction : At K mg "fraction" "fraction" (topS 9) ["top", "bottom"] := by
    obtain ⟨fd, F⟩ := c.def_ 17 (d := dd_fraction) rfl
    obtain ⟨ds, hv, hb⟩ := L2.FunD.binds1 (ps := ["top", "bottom"]) F 2 1 (List.cons_ne_nil _ _) rfl fun T kV doc pm an cdv ct us its h1 h2 => match us, h1, its, h2 with | [_, _], _, [_], _ => ⟨_, rfl, rfl⟩
    cases hv
    exact ⟨_, fd, _, _, F, He.glo_ok X G (c.fact 17 (f := .glo "fraction") rfl), hb⟩
  have a_plus : At K mg "plus" "plus" (topS 10) ["one", "other"] := by
    obtain ⟨fd, F⟩ := c.def_ 18 (d := dd_plus) rfl
    exact ⟨_, fd, [], [], F, He.glo_ok X G (c.fact 18 (f := .glo "plus") rfl), L2.FunD.bindsN F fun _ _ _ _ _ _ us hl => match us, hl with | [_, _], _ => rfl⟩
  have a_over : At K mg "over" "over" (topS 13) ["one", "other"] := by
    obtain ⟨fd, F⟩ := c.def_ 19 (d := dd_over) rfl
    exact ⟨_, fd, [], [], F, He.glo_ok X G (c.fact 19 (f := .glo "over") rfl), L2.FunD.bindsN F fun _ _ _ _ _ _ us hl => match us, hl with | [_, _], _ => rfl⟩
  have a_minus : At K mg "minus" "minus" (topS 11) ["one", "other"] := by
    obtain ⟨fd, F⟩ := c.def_ 20 (d := dd_minus) rfl
    exact ⟨_, fd, [], [], F, He.glo_ok X G (c.fact 20 (f := .glo "minus") rfl), L2.FunD.bindsN F fun _ _ _ _ _ _ us hl => match us, hl with | [_, _], _ => rfl⟩
  have a_time_to : At K mg "time_to" "time_to" (topS 16) ["one", "other"] := by
    obtain ⟨fd, F⟩ := c.def_ 21 (d := dd_time_to) rfl
    exact ⟨_, fd, [], [], F, He.glo_ok X G (c.fact 21 (f := .glo "time_to") rfl), L2.FunD.bindsN F fun _ _ _ _ _ _ us hl => match us, hl with | [_, _], _ => rfl⟩
  have a_times_on : At K mg "times_on" "times_on" (topS 28) ["clumps"] := by
    obtain ⟨fd, F⟩ := c.def_ 22 (d := dd_times_on) rfl
    exact ⟨_, fd, [], [], F, He.glo_ok X G (c.fact 22 (f := .glo "times_on") rfl), L2.FunD.bindsN F fun _ _ _ _ _ _ us hl => match us, hl with | [_], _ => rfl⟩
  have a_next_moment : At K mg "next_moment" "next_moment" (topS 30) ["clumps", "now"] := by
    obtain ⟨fd, F⟩ := c.def_ 23 (d := dd_next_moment) rfl
    exact ⟨_, fd, [], [], F, He.glo_ok X G (c.fact 23 (f := .glo "next_moment") rfl), L2.FunD.bindsN F fun _ _ _ _ _ _ us hl => match us, hl with | [_, _], _ => rfl⟩
  have a_times : At K mg "times" "times" (topS 12) ["one", "other"] := by
    obtain ⟨fd, F⟩ := c.def_ 24 (d := dd_times) rfl
    exact ⟨_, fd, [], [], F, He.glo_ok X G (c.fact 24 (f := .glo "times") rfl), L2.FunD.bindsN F fun _ _ _ _ _ _ us hl => match us, hl with | [_, _], _ => rfl⟩
  have a_led_on : At K mg "led_on" "led_on" (topS 26) ["clumps", "time"] := by
    obtain ⟨fd, F⟩ := c.def_ 25 (d := dd_led_on) rfl
    exact ⟨_, fd, [], [], F, He.glo_ok X G (c.fact 25 (f := .glo "led_on") rfl), L2.FunD.bindsN F fun _ _ _ _ _ _ us hl => match us, hl with | [_, _], _ => rfl⟩
  have a_joined : At K mg "joined" "joined" (topS 27) ["one", "other"] := by
    obtain ⟨fd, F⟩ := c.def_ 26 (d := dd_joined) rfl
    exact ⟨_, fd, [], [], F, He.glo_ok X G (c.fact 26 (f := .glo "joined") rfl), L2.FunD.bindsN F fun _ _ _ _ _ _ us hl => match us, hl with | [_, _], _ => rfl⟩
  have a_stuck_together : At K mg "stuck_together" "stuck_together" (topS 29) ["clumps"] := by
    obtain ⟨fd, F⟩ := c.def_ 27 (d := dd_stuck_together) rfl
    exact ⟨_, fd, [], [], F, He.glo_ok X G (c.fact 27 (f := .glo "stuck_together") rfl), L2.FunD.bindsN F fun _ _ _ _ _ _ us hl => match us, hl with | [_], _ => rfl⟩
  have a_stuck_on : At K mg "stuck_on" "stuck_on" (topS 31) ["clumps", "now", "moment"] := by
    obtain ⟨fd, F⟩ := c.def_ 28 (d := dd_stuck_on) rfl
    exact ⟨_, fd, [], [], F, He.glo_ok X G (c.fact 28 (f := .glo "stuck_on") rfl), L2.FunD.bindsN F fun _ _ _ _ _ _ us hl => match us, hl with | [_, _, _], _ => rfl⟩
  have a_stuck_run : At K mg "stuck_run" "stuck_run" (topS 32) ["world"] := by
    obtain ⟨fd, F⟩ := c.def_ 29 (d := dd_stuck_run) rfl
    exact ⟨_, fd, [], [], F, He.glo_ok X G (c.fact 29 (f := .glo "stuck_run") rfl), L2.FunD.bindsN F fun _ _ _ _ _ _ us hl => match us, hl with | [_], _ => rfl⟩
  have a__law_times : At K mg "_law_times" "_law_times" (topS 42) ["_law_one", "_law_other"] := by
    obtain ⟨fd, F⟩ := c.def_ 30 (d := dd__law_times) rfl
    exact ⟨_, fd, [], [], F, He.glo_ok X G (c.fact 30 (f := .glo "_law_times") rfl), L2.FunD.bindsN F fun _ _ _ _ _ _ us hl => match us, hl with | [_, _], _ => rfl⟩
  have a__law_moments : At K mg "_law_moments" "_law_moments" (topS 47) ["_law_box_here", "_law_world_here"] := by
    obtain ⟨fd, F⟩ := c.def_ 31 (d := dd__law_moments) rfl
    exact ⟨_, fd, [], [], F, He.glo_ok X G (c.fact 31 (f := .glo "_law_moments") rfl), L2.FunD.bindsN F fun _ _ _ _ _ _ us hl => match us, hl with | [_, _], _ => rfl⟩
  have a_seen_from : At K mg "seen_from" "seen_from" (topS 19) ["body", "speed"] := by
    obtain ⟨fd, F⟩ := c.def_ 32 (d := dd_seen_from) rfl
    exact ⟨_, fd, [], [], F, He.glo_ok X G (c.fact 32 (f := .glo "seen_from") rfl), L2.FunD.bindsN F fun _ _ _ _ _ _ us hl => match us, hl with | [_, _], _ => rfl⟩
  have a_need_moment : At K mg "need_moment" "need_moment" (topS 23) ["moment"] := by
    obtain ⟨fd, F⟩ := c.def_ 33 (d := dd_need_moment) rfl
    exact ⟨_, fd, [], [], F, He.glo_ok X G (c.fact 33 (f := .glo "need_moment") rfl), L2.FunD.bindsN F fun _ _ _ _ _ _ us hl => match us, hl with | [_], _ => rfl⟩
  have a_clumps_at : At K mg "clumps_at" "clumps_at" (topS 33) ["world", "moment"] := by
    obtain ⟨fd, F⟩ := c.def_ 34 (d := dd_clumps_at) rfl
    exact ⟨_, fd, [], [], F, He.glo_ok X G (c.fact 34 (f := .glo "clumps_at") rfl), L2.FunD.bindsN F fun _ _ _ _ _ _ us hl => match us, hl with | [_, _], _ => rfl⟩
  have a__law_seen : At K mg "_law_seen" "_law_seen" (topS 51) ["_law_world_here", "_law_speed", "_law_moment"] := by
    obtain ⟨fd, F⟩ := c.def_ 35 (d := dd__law_seen) rfl
    exact ⟨_, fd, [], [], F, He.glo_ok X G (c.fact 35 (f := .glo "_law_seen") rfl), L2.FunD.bindsN F fun _ _ _ _ _ _ us hl => match us, hl with | [_, _, _], _ => rfl⟩
  have a__law_on : At K mg "_law_on" "_law_on" (topS 48) ["_law_world_here", "_law_first", "_law_second"] := by
    obtain ⟨fd, F⟩ := c.def_ 36 (d := dd__law_on) rfl
    exact ⟨_, fd, [], [], F, He.glo_ok X G (c.fact 36 (f := .glo "_law_on") rfl), L2.FunD.bindsN F fun _ _ _ _ _ _ us hl => match us, hl with | [_, _, _], _ => rfl⟩
  have a__law_about : At K mg "_law_about" "_law_about" (topS 49) ["_law_one"] := by
    obtain ⟨fd, F⟩ := c.def_ 37 (d := dd__law_about) rfl
    exact ⟨_, fd, [], [], F, He.glo_ok X G (c.fact 37 (f := .glo "_law_about") rfl), L2.FunD.bindsN F fun _ _ _ _ _ _ us hl => match us, hl with | [_], _ => rfl⟩
  have a_turned_about : At K mg "turned_about" "turned_about" (topS 20) ["body"] := by
    obtain ⟨fd, F⟩ := c.def_ 38 (d := dd_turned_about) rfl
    exact ⟨_, fd, [], [], F, He.glo_ok X G (c.fact 38 (f := .glo "turned_about") rfl), L2.FunD.bindsN F fun _ _ _ _ _ _ us hl => match us, hl with | [_], _ => rfl⟩
  have a_mirrored : At K mg "mirrored" "mirrored" (topS 21) ["world"] := by
    obtain ⟨fd, F⟩ := c.def_ 39 (d := dd_mirrored) rfl
    exact ⟨_, fd, [], [], F, He.glo_ok X G (c.fact 39 (f := .glo "mirrored") rfl), L2.FunD.bindsN F fun _ _ _ _ _ _ us hl => match us, hl with | [_], _ => rfl⟩
  have a__law_mirror : At K mg "_law_mirror" "_law_mirror" (topS 50) ["_law_world_here", "_law_moment"] := by
    obtain ⟨fd, F⟩ := c.def_ 40 (d := dd__law_mirror) rfl
    exact ⟨_, fd, [], [], F, He.glo_ok X G (c.fact 40 (f := .glo "_law_mirror") rfl), L2.FunD.bindsN F fun _ _ _ _ _ _ us hl => match us, hl with | [_, _], _ => rfl⟩
  have a_law : At K mg "law" "law" (topS 52) ["_law_script"] := by
    obtain ⟨fd, F⟩ := c.def_ 41 (d := dd_law) rfl
    exact ⟨_, fd, [], [], F, He.glo_ok X G (c.fact 41 (f := .glo "law") rfl), L2.FunD.bindsN F fun _ _ _ _ _ _ us hl => match us, hl with | [_], _ => rfl⟩
  have z_len : mg "len" = none := He.free_ok X G (c.fact 42 (f := .free "len") rfl)
  have z_range : mg "range" = none := He.free_ok X G (c.fact 43 (f := .free "range") rfl)
  have z_abs : mg "abs" = none := He.free_ok X G (c.fact 44 (f := .free "abs") rfl)
  have z_divmod : mg "divmod" = none := He.free_ok X G (c.fact 45 (f := .free "divmod") rfl)
  have z_enumerate : mg "enumerate" = none := He.free_ok X G (c.fact 46 (f := .free "enumerate") rfl)
  have z_bool : mg "bool" = none := He.free_ok X G (c.fact 47 (f := .free "bool") rfl)
  have z_int : mg "int" = none := He.free_ok X G (c.fact 48 (f := .free "int") rfl)
  have z_isinstance : mg "isinstance" = none := He.free_ok X G (c.fact 49 (f := .free "isinstance") rfl)
  have z_reversed : mg "reversed" = none := He.free_ok X G (c.fact 50 (f := .free "reversed") rfl)
  have z_max : mg "max" = none := He.free_ok X G (c.fact 51 (f := .free "max") rfl)
  have z_min : mg "min" = none := He.free_ok X G (c.fact 52 (f := .free "min") rfl)
  have x_NoNumber : XCls K mg "NoNumber" := ⟨_, He.glo_ok X G (c.fact 53 (f := .glo "NoNumber") rfl), He.exc_ok (c.fact 54 (f := .exc "NoNumber") rfl)⟩
  have x_NoMoment : XCls K mg "NoMoment" := ⟨_, He.glo_ok X G (c.fact 55 (f := .glo "NoMoment") rfl), He.exc_ok (c.fact 56 (f := .exc "NoMoment") rfl)⟩
  have g_NOUGHT : GD K mg "NOUGHT" gv_NOUGHT := c0.gd X G (p := ("NOUGHT", gv_NOUGHT)) (by simp [gs])
  obtain ⟨fd, F⟩ := c.def_ 41 (d := dd_law) rfl
  have b := L2.FunD.bindsA (ps := ["_law_script"]) F fun _ _ _ _ _ _ us hl => match us, hl with | [_], _ => rfl
  exact law_end (st := topS 52) (qual := "law") hfa (He.glo_ok X G (c.fact 41 (f := .glo "law") rfl)) F (fun s v => b s [v] rfl) fun base kb nb => law_def base a__law_cell z_len a__law_mix a__law_box z_range a__law_fit z_abs a__law_take z_divmod a__law_small a__law_plus a__law_minus a__law_over a__law_led_together z_enumerate a__law_world a_first_clumps a_under a_least_of a_divisor a_size_of a_is_whole z_bool z_int z_isinstance a_fraction x_NoNumber a_plus a_over a_minus a_time_to a_times_on a_next_moment a_times a_led_on a_joined a_stuck_together a_stuck_on a_stuck_run g_NOUGHT a__law_times a__law_moments a_seen_from a_need_moment x_NoMoment a_clumps_at a__law_seen a__law_on a__law_about a_turned_about a_mirrored z_reversed a__law_mirror a_law z_max z_min
end VS
open PySem PySem.W PySem.Calls PyProof.Rows
set_option maxHeartbeats 0 in
theorem PySem.Challenge.cw_knockwright_k85_whole_clumps_gone_on_holds : PySem.Challenge.rw_knockwright_k85_whole_clumps_gone_on.Holds := by
  w_on; o_law
  refine HandSHeadRun.head_any (r := OpenLaw.row PySem.Challenge.rw_knockwright_k85_whole_clumps_gone_on) (q := view (OpenLaw.row PySem.Challenge.rw_knockwright_k85_whole_clumps_gone_on).prog [52]) (H := VS.hk) (ob := VS.ob) (M := 3000) (loose := VS.loose) (d := HandSHeadRun.topDef (OpenLaw.row PySem.Challenge.rw_knockwright_k85_whole_clumps_gone_on).prog 52) (kwd := []) VS.ob_eq
    (by kernel_rfl) (fun s => by kernel_rfl) VS.run (by kernel_rfl) (by kernel_rfl) (by kernel_rfl) (by rfl) (by first | assumption | decide +kernel) (by decide +kernel) ⟨rfl, rfl, rfl, rfl, rfl, by decide +kernel⟩ ?hw ?hc
  case hw => w_witness2
  case hc =>
    refine LamX.walk_ofTsE (l := PySem.Challenge.rw_knockwright_k85_whole_clumps_gone_on) (n := 63) (k := 9) (x := "_law_script") (CX := fun w => L2.CX PySem.Challenge.pw_knockwright_k85_whole_clumps_gone_on w) rfl (by decide) (by kernel_rfl) ⟨rfl, by decide, by decide⟩ ?F (fun _ _ _ _ _ h => VS.cx_end h)
    intro w mg fa h Y G hmg0
    obtain ⟨K, KX, c⟩ := Y
    have hmg : mg ("law" : PySem.Str) = some (.ref fa) := by
      have e : (HandSHeadRun.topDef (OpenLaw.row PySem.Challenge.rw_knockwright_k85_whole_clumps_gone_on).prog 52).name = ("law" : PySem.Str) := by kernel_rfl
      rw [← e]
      exact hmg0
    exact ⟨K, KX, VS.law_all KX G hmg c⟩
#print axioms PySem.Challenge.cw_knockwright_k85_whole_clumps_gone_on_holds
