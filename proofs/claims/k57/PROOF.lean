import PyProof.Rows.All
import HandS.ForMost
import HandS.ForExc
import HandS.Wide
import HandS.CallSlots
import KE.DataEq
import HandS.IsInst
import HandS.Defaults
import HandS.More
import HandS.TryOnly
import HandS.ExcField
import KE.KExcIs
import HandS.ExcIs
import HandS.ExcInit
import KE.KStateDown
import HandS.Head0
import HandS.Head1
import HandS.Head2
import HandS.HeadEnd
import HandS.HeadHook1
import HandS.HeadHook2
import HandS.HeadWalk
import HandS.ClsMeth
import HandS.Conv
import HandS.SortInts
import HandS.Dict
import HandS.DictEq
import HandS.DeepEq
import HandS.TupAny
import HandS.TupMul
import HandS.TryMany
import HandS.DictComp
import KE.KEqNest
import PyProof.NeKinds
import HandS.Rev
import HandS.RevTup
import HandS.Style
import HandS.DictTup
import PyProof.DictMoreH
import PySem.Challenge.RW_knockwright_k57_the_round
set_option Elab.async false
set_option linter.all false
set_option maxRecDepth 100000
set_option maxHeartbeats 4000000
/-! VS1: data without a heap (D: shared, nobody changes it; Sl: owned, what a slot holds), how they lie in the abstract heap. Own work. -/
namespace VS
open PySem PySem.Spec PyProof.Rows
open L2 (V Hp HO upd SqL SqT Rd)
/-- shared data; a list is stable (true), or was handed in and may be changed again behind the call (false) -/
inductive D where
  | non | bl (b : Bool) | int (i : Int) | str (s : Str) | ty (n : String) | fn (x : Str)
  | tup (ds : List D)
  | lst (st : Bool) (ds : List D)
  | dct (ks : List L2.Key) (ds : List D)
/-- what one owner holds: shared data; a list of shared data that it may change; a tuple, an object, a list of such -/
inductive Sl where
  | no
  | v (d : D)
  | l (ds : List D)
  | t (ss : List Sl)
  | o (cn : Str) (ns : List Str) (ss : List Sl)
  | ll (ss : List Sl)
  /-- a dict whose keys are tuples of whole numbers -/
  | dt (ks : List (List Int)) (ss : List Sl)
/-- a tuple of whole numbers -/
def keyD (k : List Int) : D := .tup (k.map .int)
/-- a dict whose keys are such: its entries (the key, its address, the value's address) -/
def dXin (a : Addr) (kb : List (List Int × Addr × Addr)) (h : Heap) : Prop := (a == sysModules) = false ∧ ∃ (P : Program) (w : World) (o : Obj) (es : Array DictEntry) (ep : Nat), h.get? a = some o ∧ o.ExactDict ∧ o.data = .dict es ep ∧ es.toList = kb.map (fun x => entryOfKey (tupleKind (PySem.intKind P w)) (x.1, x.2.1, .ref x.2.2)) ∧ (kb.map (·.1)).Nodup
def dX (a : Addr) (kb : List (List Int × Addr × Addr)) : HO := .ext (dXin a kb)
mutual
/-- may be handed back -/
def retOk : D → Bool
  | .tup ds => retOks ds
  | .lst st ds => st && retOks ds
  | .dct _ ds => retOks ds
  | _ => true
def retOks : List D → Bool
  | [] => true
  | d :: ds => retOk d && retOks ds
end
mutual
def retSl : Sl → Bool
  | .no => false
  | .v d => retOk d
  | .l ds => retOks ds
  | .t ss => retSls ss
  | .o _ _ ss => retSls ss
  | .ll ss => retSls ss
  | .dt _ ss => retSls ss
def retSls : List Sl → Bool
  | [] => true
  | s :: ss => retSl s && retSls ss
end
theorem retInts : ∀ k : List Int, retOks (k.map .int) = true
  | [] => rfl
  | _ :: k => by rw [List.map_cons, retOks, retInts k] <;> rfl
theorem retKeys : ∀ kb : List (List Int × Addr × Addr), retOks (kb.map fun x => keyD x.1) = true
  | [] => rfl
  | x :: kb => by rw [List.map_cons, retOks, retKeys kb, keyD, retOk, retInts] <;> rfl
/-! owned no more -/
mutual
def frSl : Sl → Option D
  | .no => none
  | .v d => some d
  | .l ds => some (.lst true ds)
  | .t ss => (frSls ss).map .tup
  | .o _ _ _ => none
  | .ll ss => (frSls ss).map (.lst true)
  | .dt _ _ => none
def frSls : List Sl → Option (List D)
  | [] => some []
  | s :: ss => (frSl s).bind fun d => (frSls ss).map (d :: ·)
end
structure Ge where
  K : PySem.W.Frag
  mg : Str → Option Value
/-- a list of the written part -/
def KL (K : PySem.W.Frag) (a : Addr) (xs : List V) : Prop :=
  ∃ (o : Obj) (its : Array Value) (n : Nat), K.lookup a = some o ∧ o.cls = .type "list" ∧ o.dict = none ∧ o.data = .seq its n ∧ its.size ≤ sizeLine ∧ L2.Vals xs its.toList
/-- a list that nobody changes: tracked (P: what is asked of its address), known, or written -/
def LT (K : PySem.W.Frag) (P : Addr → Prop) (H : Hp) (a : Addr) (vs : List V) : Prop :=
  (H a = some (.lst vs) ∧ P a) ∨ (∃ o, H a = some (.frz o (.lst vs))) ∨ KL K a vs
theorem LT.sq {K : PySem.W.Frag} {P : Addr → Prop} {H : Hp} {a : Addr} {vs : List V} (h : LT K P H a vs) : SqL K H a vs := by
  rcases h with ⟨h, _⟩ | h | h
  · exact .inl (.inl h)
  · exact .inl (.inr h)
  · exact .inr h
theorem LT.imp {K : PySem.W.Frag} {P P' : Addr → Prop} {H : Hp} {a : Addr} {vs : List V} (hp : ∀ a, H a ≠ none → P a → P' a) (h : LT K P H a vs) : LT K P' H a vs := by
  rcases h with ⟨h, p⟩ | h | h
  · exact .inl ⟨h, hp a (by rw [h]; simp) p⟩
  · exact .inr (.inl h)
  · exact .inr (.inr h)
mutual
/-- v stands for d over H; M: the addresses that are owned here, Z: those of the callers -/
inductive Rep (g : Ge) (Z : Addr → Prop) (M : Addr → Prop) (H : Hp) : V → D → Prop
  | non : Rep g Z M H .non .non
  | bl (b : Bool) : Rep g Z M H (.bl b) (.bl b)
  | int (i : Int) : Rep g Z M H (.int i) (.int i)
  | str (s : Str) : Rep g Z M H (.str s) (.str s)
  | ty (n : String) : Rep g Z M H (.ty n) (.ty n)
  | fn {x : Str} {a : Addr} : g.mg x = some (.ref a) → Rep g Z M H (.ref a) (.fn x)
  | tup {a : Addr} {vs : List V} {ds : List D} : SqT g.K H a vs → Reps g Z M H vs ds → Rep g Z M H (.ref a) (.tup ds)
  | lst {st : Bool} {a : Addr} {vs : List V} {ds : List D} : LT g.K (fun a => ¬ M a ∧ (st = true → ¬ Z a)) H a vs → Reps g Z M H vs ds → Rep g Z M H (.ref a) (.lst st ds)
  | dct {a : Addr} {kvs : List (L2.Key × V)} {ks : List L2.Key} {vs : List V} {ds : List D} : H a = some (.dK kvs) → kvs.map (·.1) = ks → kvs.map (·.2) = vs → Reps g Z M H vs ds → Rep g Z M H (.ref a) (.dct ks ds)
inductive Reps (g : Ge) (Z : Addr → Prop) (M : Addr → Prop) (H : Hp) : List V → List D → Prop
  | nil : Reps g Z M H [] []
  | cons {v : V} {d : D} {vs : List V} {ds : List D} : Rep g Z M H v d → Reps g Z M H vs ds → Reps g Z M H (v :: vs) (d :: ds)
end
mutual
/-- .. for what is owned; as: the addresses that it owns -/
inductive RepO (g : Ge) (Z : Addr → Prop) (M : Addr → Prop) (H : Hp) : V → Sl → List Addr → Prop
  | v {v : V} {d : D} : Rep g Z M H v d → RepO g Z M H v (.v d) []
  | l {a : Addr} {vs : List V} {ds : List D} : H a = some (.lst vs) → Reps g Z M H vs ds → RepO g Z M H (.ref a) (.l ds) [a]
  | t {a : Addr} {vs : List V} {ss : List Sl} {as : List Addr} : SqT g.K H a vs → RepOs g Z M H vs ss as → RepO g Z M H (.ref a) (.t ss) as
  | o {a C dx : Addr} {cn : Str} {fs : List (Str × V)} {ns : List Str} {vs : List V} {ss : List Sl} {as : List Addr} : H a = some (.ins C dx fs) → g.mg cn = some (.ref C) → fs.map (·.1) = ns → fs.map (·.2) = vs → RepOs g Z M H vs ss as → RepO g Z M H (.ref a) (.o cn ns ss) (a :: as)
  | ll {a : Addr} {vs : List V} {ss : List Sl} {as : List Addr} : H a = some (.lst vs) → RepOs g Z M H vs ss as → RepO g Z M H (.ref a) (.ll ss) (a :: as)
  | dt {a : Addr} {kb : List (List Int × Addr × Addr)} {ks : List (List Int)} {ss : List Sl} {as : List Addr} : H a = some (dX a kb) → kb.map (·.1) = ks → Reps g Z M H (kb.map fun x => .ref x.2.1) (kb.map fun x => keyD x.1) → RepOs g Z M H (kb.map fun x => .ref x.2.2) ss as → RepO g Z M H (.ref a) (.dt ks ss) (a :: as)
inductive RepOs (g : Ge) (Z : Addr → Prop) (M : Addr → Prop) (H : Hp) : List V → List Sl → List Addr → Prop
  | nil : RepOs g Z M H [] [] []
  | cons {v : V} {s : Sl} {as : List Addr} {vs : List V} {ss : List Sl} {bs : List Addr} : RepO g Z M H v s as → RepOs g Z M H vs ss bs → RepOs g Z M H (v :: vs) (s :: ss) (as ++ bs)
end
/-- what is owned is a list or an instance -/
def Typed (H : Hp) (a : Addr) : Prop := (∃ vs, H a = some (.lst vs)) ∨ (∃ C dx fs, H a = some (.ins C dx fs)) ∨ ∃ φ, H a = some (.ext φ)
theorem Typed.ne {H : Hp} {a : Addr} (t : Typed H a) : H a ≠ none := by
  rcases t with ⟨_, e⟩ | ⟨_, _, _, e⟩ | ⟨_, e⟩ <;> (rw [e]; simp)
section
variable {g : Ge} {Z : Addr → Prop} {M M' : Addr → Prop} {H H' : Hp}
mutual
theorem RepO.typed : ∀ {v : V} {s : Sl} {as : List Addr}, RepO g Z M H v s as → ∀ a ∈ as, Typed H a
  | _, _, _, .v _, _, h => absurd h (by simp)
  | _, _, _, .l e _, a, h => by
    rcases List.mem_cons.mp h with rfl | h
    · exact .inl ⟨_, e⟩
    · exact absurd h (by simp)
  | _, _, _, .t _ r, a, h => r.typed a h
  | _, _, _, .o e _ _ _ r, a, h => by
    rcases List.mem_cons.mp h with rfl | h
    · exact .inr (.inl ⟨_, _, _, e⟩)
    · exact r.typed a h
  | _, _, _, .ll e r, a, h => by
    rcases List.mem_cons.mp h with rfl | h
    · exact .inl ⟨_, e⟩
    · exact r.typed a h
  | _, _, _, .dt e _ _ r, a, h => by
    rcases List.mem_cons.mp h with rfl | h
    · exact .inr (.inr ⟨_, e⟩)
    · exact r.typed a h
theorem RepOs.typed : ∀ {vs : List V} {ss : List Sl} {as : List Addr}, RepOs g Z M H vs ss as → ∀ a ∈ as, Typed H a
  | _, _, _, .nil, _, h => absurd h (by simp)
  | _, _, _, .cons r rs, a, h => by
    rcases List.mem_append.mp h with h | h
    · exact r.typed a h
    · exact rs.typed a h
end
theorem Typed.notT {a : Addr} {vs : List V} (t : Typed H a) (h : H a = some (.tup vs)) : False := by
  rcases t with ⟨_, e⟩ | ⟨_, _, _, e⟩ | ⟨_, e⟩ <;> (rw [h] at e; cases e)
theorem Typed.notF {a : Addr} {o : Obj} {u : HO} (t : Typed H a) (h : H a = some (.frz o u)) : False := by
  rcases t with ⟨_, e⟩ | ⟨_, _, _, e⟩ | ⟨_, e⟩ <;> (rw [h] at e; cases e)
theorem Typed.notD {a : Addr} {kvs : List (L2.Key × V)} (t : Typed H a) (h : H a = some (.dK kvs)) : False := by
  rcases t with ⟨_, e⟩ | ⟨_, _, _, e⟩ | ⟨_, e⟩ <;> (rw [h] at e; cases e)
/-- from H, M to H', M': but at ch all stands -/
structure Moved (ch M M' : Addr → Prop) (H H' : Hp) : Prop where
  keep : ∀ b o, H b = some o → ¬ ch b → H' b = some o
  ty : ∀ a, ch a → Typed H a
  sub : ∀ a, ch a → M a
  new : ∀ a, M' a → M a ∨ H a = none
theorem Moved.refl : Moved (fun _ => False) M M H H := ⟨fun _ _ h _ => h, fun _ h => h.elim, fun _ h => h.elim, fun _ h => .inl h⟩
variable {ch : Addr → Prop}
theorem Moved.tup (m : Moved ch M M' H H') {K : PySem.W.Frag} {a : Addr} {vs : List V} (h : SqT K H a vs) : SqT K H' a vs := by
  rcases h with (h | ⟨o, h⟩) | h
  · exact .inl (.inl (m.keep _ _ h fun z => (m.ty _ z).notT h))
  · exact .inl (.inr ⟨o, m.keep _ _ h fun z => (m.ty _ z).notF h⟩)
  · exact .inr h
theorem Moved.lt (m : Moved ch M M' H H') {K : PySem.W.Frag} {P P' : Addr → Prop} (hp : ∀ a, P a → ¬ M a ∧ (¬ M' a → P' a)) {a : Addr} {vs : List V} (h : LT K P H a vs) : LT K P' H' a vs := by
  rcases h with ⟨h, p⟩ | ⟨o, h⟩ | h
  · obtain ⟨n, q⟩ := hp a p
    refine .inl ⟨m.keep _ _ h fun z => n (m.sub _ z), q fun z => ?_⟩
    rcases m.new a z with z | z
    · exact n z
    · rw [h] at z; cases z
  · exact .inr (.inl ⟨o, m.keep _ _ h fun z => (m.ty _ z).notF h⟩)
  · exact .inr (.inr h)
mutual
theorem Rep.moved (m : Moved ch M M' H H') : ∀ {v : V} {d : D}, Rep g Z M H v d → Rep g Z M' H' v d
  | _, _, .non => .non
  | _, _, .bl b => .bl b
  | _, _, .int i => .int i
  | _, _, .str s => .str s
  | _, _, .ty n => .ty n
  | _, _, .fn h => .fn h
  | _, _, .tup h r => .tup (m.tup h) (r.moved m)
  | _, .lst st _, .lst l r => .lst (m.lt (P := fun a => ¬ M a ∧ (st = true → ¬ Z a)) (P' := fun a => ¬ M' a ∧ (st = true → ¬ Z a)) (fun a p => ⟨p.1, fun z => ⟨z, p.2⟩⟩) l) (r.moved m)
  | _, _, .dct e n w r => .dct (m.keep _ _ e fun z => (m.ty _ z).notD e) n w (r.moved m)
theorem Reps.moved (m : Moved ch M M' H H') : ∀ {vs : List V} {ds : List D}, Reps g Z M H vs ds → Reps g Z M' H' vs ds
  | _, _, .nil => .nil
  | _, _, .cons r rs => .cons (r.moved m) (rs.moved m)
end
mutual
theorem RepO.moved (m : Moved ch M M' H H') : ∀ {v : V} {s : Sl} {as : List Addr}, RepO g Z M H v s as → (∀ a ∈ as, ¬ ch a) → RepO g Z M' H' v s as
  | _, _, _, .v r, _ => .v (r.moved m)
  | _, _, _, .l e r, hc => .l (m.keep _ _ e (hc _ (by simp))) (r.moved m)
  | _, _, _, .t h r, hc => .t (m.tup h) (r.moved m hc)
  | _, _, _, .o e h n w r, hc => .o (m.keep _ _ e (hc _ List.mem_cons_self)) h n w (r.moved m fun a h => hc a (List.mem_cons_of_mem _ h))
  | _, _, _, .ll e r, hc => .ll (m.keep _ _ e (hc _ List.mem_cons_self)) (r.moved m fun a h => hc a (List.mem_cons_of_mem _ h))
  | _, _, _, .dt e n w r, hc => .dt (m.keep _ _ e (hc _ List.mem_cons_self)) n (w.moved m) (r.moved m fun a h => hc a (List.mem_cons_of_mem _ h))
theorem RepOs.moved (m : Moved ch M M' H H') : ∀ {vs : List V} {ss : List Sl} {as : List Addr}, RepOs g Z M H vs ss as → (∀ a ∈ as, ¬ ch a) → RepOs g Z M' H' vs ss as
  | _, _, _, .nil, _ => .nil
  | _, _, _, .cons r rs, hc => .cons (r.moved m fun a h => hc a (List.mem_append_left _ h)) (rs.moved m fun a h => hc a (List.mem_append_right _ h))
end
/-- only new objects -/
def Ext (H H' : Hp) : Prop := ∀ b o, H b = some o → H' b = some o
theorem Ext.refl (H : Hp) : Ext H H := fun _ _ h => h
theorem Ext.trans {H1 : Hp} (a : Ext H H1) (b : Ext H1 H') : Ext H H' := fun c o h => b c o (a c o h)
theorem Ext.new {p : Addr} {o : HO} (h : H p = none) : Ext H (upd H p o) := fun a u e => by
  rw [L2.upd_ne (L2.ne_of_none e h)]; exact e
theorem Ext.free (x : Ext H H') {p : Addr} (h : H' p = none) : H p = none := by
  cases e : H p with
  | none => rfl
  | some o => rw [x p o e] at h; cases h
theorem Ext.tup (x : Ext H H') {K : PySem.W.Frag} {a : Addr} {vs : List V} (h : SqT K H a vs) : SqT K H' a vs := by
  rcases h with (h | ⟨o, h⟩) | h
  · exact .inl (.inl (x _ _ h))
  · exact .inl (.inr ⟨o, x _ _ h⟩)
  · exact .inr h
theorem Ext.lst (x : Ext H H') {K : PySem.W.Frag} {a : Addr} {vs : List V} (h : SqL K H a vs) : SqL K H' a vs := by
  rcases h with (h | ⟨o, h⟩) | h
  · exact .inl (.inl (x _ _ h))
  · exact .inl (.inr ⟨o, x _ _ h⟩)
  · exact .inr h
theorem Ext.mv (x : Ext H H') : Moved (fun _ => False) M M H H' := ⟨fun b o e _ => x b o e, fun _ h => h.elim, fun _ h => h.elim, fun _ h => .inl h⟩
theorem Rep.ext (x : Ext H H') {v : V} {d : D} (r : Rep g Z M H v d) : Rep g Z M H' v d := r.moved x.mv
theorem Reps.ext (x : Ext H H') {vs : List V} {ds : List D} (r : Reps g Z M H vs ds) : Reps g Z M H' vs ds := r.moved x.mv
theorem RepO.ext (x : Ext H H') {v : V} {s : Sl} {as : List Addr} (r : RepO g Z M H v s as) : RepO g Z M H' v s as := r.moved x.mv (fun _ _ z => z)
theorem RepOs.ext (x : Ext H H') {vs : List V} {ss : List Sl} {as : List Addr} (r : RepOs g Z M H vs ss as) : RepOs g Z M H' vs ss as := r.moved x.mv (fun _ _ z => z)
/-! other owners: what is asked of a stable list's address stays true -/
mutual
theorem Rep.re {Z' : Addr → Prop} (hM : ∀ a, H a ≠ none → ¬ M a → ¬ M' a) (hZ : ∀ a, H a ≠ none → ¬ M a → ¬ Z a → ¬ Z' a) : ∀ {v : V} {d : D}, Rep g Z M H v d → Rep g Z' M' H v d
  | _, _, .non => .non
  | _, _, .bl b => .bl b
  | _, _, .int i => .int i
  | _, _, .str s => .str s
  | _, _, .ty n => .ty n
  | _, _, .fn h => .fn h
  | _, _, .tup h r => .tup h (r.re hM hZ)
  | _, .lst st _, .lst l r => .lst (LT.imp (P := fun a => ¬ M a ∧ (st = true → ¬ Z a)) (fun a e p => ⟨hM a e p.1, fun z => hZ a e p.1 (p.2 z)⟩) l) (r.re hM hZ)
  | _, _, .dct e n w r => .dct e n w (r.re hM hZ)
theorem Reps.re {Z' : Addr → Prop} (hM : ∀ a, H a ≠ none → ¬ M a → ¬ M' a) (hZ : ∀ a, H a ≠ none → ¬ M a → ¬ Z a → ¬ Z' a) : ∀ {vs : List V} {ds : List D}, Reps g Z M H vs ds → Reps g Z' M' H vs ds
  | _, _, .nil => .nil
  | _, _, .cons r rs => .cons (r.re hM hZ) (rs.re hM hZ)
end
mutual
theorem RepO.re {Z' : Addr → Prop} (hM : ∀ a, H a ≠ none → ¬ M a → ¬ M' a) (hZ : ∀ a, H a ≠ none → ¬ M a → ¬ Z a → ¬ Z' a) : ∀ {v : V} {s : Sl} {as : List Addr}, RepO g Z M H v s as → RepO g Z' M' H v s as
  | _, _, _, .v r => .v (r.re hM hZ)
  | _, _, _, .l e r => .l e (r.re hM hZ)
  | _, _, _, .t h r => .t h (r.re hM hZ)
  | _, _, _, .o e h n w r => .o e h n w (r.re hM hZ)
  | _, _, _, .ll e r => .ll e (r.re hM hZ)
  | _, _, _, .dt e n w r => .dt e n (w.re hM hZ) (r.re hM hZ)
theorem RepOs.re {Z' : Addr → Prop} (hM : ∀ a, H a ≠ none → ¬ M a → ¬ M' a) (hZ : ∀ a, H a ≠ none → ¬ M a → ¬ Z a → ¬ Z' a) : ∀ {vs : List V} {ss : List Sl} {as : List Addr}, RepOs g Z M H vs ss as → RepOs g Z' M' H vs ss as
  | _, _, _, .nil => .nil
  | _, _, _, .cons r rs => .cons (r.re hM hZ) (rs.re hM hZ)
end
mutual
/-- what may be handed back: M' may also own what is not there yet, Z' what the callers own -/
theorem Rep.back {Z' : Addr → Prop} (hM : ∀ a, H a ≠ none → ¬ M a → ¬ Z a → ¬ M' a) (hZ : ∀ a, H a ≠ none → ¬ M a → ¬ Z a → ¬ Z' a) : ∀ {v : V} {d : D}, Rep g Z M H v d → retOk d = true → Rep g Z' M' H v d
  | _, _, .non, _ => .non
  | _, _, .bl b, _ => .bl b
  | _, _, .int i, _ => .int i
  | _, _, .str s, _ => .str s
  | _, _, .ty n, _ => .ty n
  | _, _, .fn h, _ => .fn h
  | _, _, .tup h r, k => .tup h (r.back hM hZ (by simpa [retOk] using k))
  | _, .lst st ds, .lst l r, k => by
    have k' : st = true ∧ retOks ds = true := by simpa [retOk] using k
    exact .lst (LT.imp (P := fun a => ¬ M a ∧ (st = true → ¬ Z a)) (fun a e p => ⟨hM a e p.1 (p.2 k'.1), fun z => hZ a e p.1 (p.2 z)⟩) l) (r.back hM hZ k'.2)
  | _, _, .dct e n w r, k => .dct e n w (r.back hM hZ (by simpa [retOk] using k))
theorem Reps.back {Z' : Addr → Prop} (hM : ∀ a, H a ≠ none → ¬ M a → ¬ Z a → ¬ M' a) (hZ : ∀ a, H a ≠ none → ¬ M a → ¬ Z a → ¬ Z' a) : ∀ {vs : List V} {ds : List D}, Reps g Z M H vs ds → retOks ds = true → Reps g Z' M' H vs ds
  | _, _, .nil, _ => .nil
  | _, d :: ds, .cons r rs, k => by
    have k' : retOk d = true ∧ retOks ds = true := by simpa [retOks] using k
    exact .cons (r.back hM hZ k'.1) (rs.back hM hZ k'.2)
end
mutual
theorem RepO.back {Z' : Addr → Prop} (hM : ∀ a, H a ≠ none → ¬ M a → ¬ Z a → ¬ M' a) (hZ : ∀ a, H a ≠ none → ¬ M a → ¬ Z a → ¬ Z' a) : ∀ {v : V} {s : Sl} {as : List Addr}, RepO g Z M H v s as → retSl s = true → RepO g Z' M' H v s as
  | _, _, _, .v r, k => .v (r.back hM hZ (by simpa [retSl] using k))
  | _, _, _, .l e r, k => .l e (r.back hM hZ (by simpa [retSl] using k))
  | _, _, _, .t h r, k => .t h (r.back hM hZ (by simpa [retSl] using k))
  | _, _, _, .o e h n w r, k => .o e h n w (r.back hM hZ (by simpa [retSl] using k))
  | _, _, _, .ll e r, k => .ll e (r.back hM hZ (by simpa [retSl] using k))
  | _, _, _, .dt e n w r, k => .dt e n (w.back hM hZ (retKeys _)) (r.back hM hZ (by simpa [retSl] using k))
theorem RepOs.back {Z' : Addr → Prop} (hM : ∀ a, H a ≠ none → ¬ M a → ¬ Z a → ¬ M' a) (hZ : ∀ a, H a ≠ none → ¬ M a → ¬ Z a → ¬ Z' a) : ∀ {vs : List V} {ss : List Sl} {as : List Addr}, RepOs g Z M H vs ss as → retSls ss = true → RepOs g Z' M' H vs ss as
  | _, _, _, .nil, _ => .nil
  | _, s :: ss, _, .cons r rs, k => by
    have k' : retSl s = true ∧ retSls ss = true := by simpa [retSls] using k
    exact .cons (r.back hM hZ k'.1) (rs.back hM hZ k'.2)
end
mutual
theorem RepO.freeze : ∀ {v : V} {s : Sl} {as : List Addr} {d : D}, RepO g Z M H v s as → frSl s = some d → (∀ a ∈ as, ¬ M a ∧ ¬ Z a) → Rep g Z M H v d
  | _, _, _, _, .v r, e, _ => by
    rw [frSl] at e; cases e; exact r
  | _, _, _, _, .l h r, e, hs => by
    rw [frSl] at e; cases e; exact .lst (.inl ⟨h, (hs _ (by simp)).1, fun _ => (hs _ (by simp)).2⟩) r
  | _, .t ss, _, _, .t h r, e, hs => by
    rw [frSl] at e
    cases q : frSls ss with
    | none => rw [q] at e; cases e
    | some ds => rw [q] at e; cases e; exact .tup h (r.freeze q hs)
  | _, _, _, _, .o _ _ _ _ _, e, _ => by rw [frSl] at e; cases e
  | _, _, _, _, .dt _ _ _ _, e, _ => by rw [frSl] at e; cases e
  | _, .ll ss, _, _, .ll h r, e, hs => by
    rw [frSl] at e
    cases q : frSls ss with
    | none => rw [q] at e; cases e
    | some ds => rw [q] at e; cases e; exact .lst (.inl ⟨h, (hs _ List.mem_cons_self).1, fun _ => (hs _ List.mem_cons_self).2⟩) (r.freeze q fun a h => hs a (List.mem_cons_of_mem _ h))
theorem RepOs.freeze : ∀ {vs : List V} {ss : List Sl} {as : List Addr} {ds : List D}, RepOs g Z M H vs ss as → frSls ss = some ds → (∀ a ∈ as, ¬ M a ∧ ¬ Z a) → Reps g Z M H vs ds
  | _, _, _, _, .nil, e, _ => by rw [frSls] at e; cases e; exact .nil
  | _, s :: ss, _, _, .cons r rs, e, hs => by
    rw [frSls] at e
    cases q : frSl s with
    | none => rw [q] at e; cases e
    | some d =>
      cases q2 : frSls ss with
      | none => rw [q, q2] at e; cases e
      | some ds =>
        rw [q, q2] at e; cases e
        exact .cons (r.freeze q fun a h => hs a (List.mem_append_left _ h)) (rs.freeze q2 fun a h => hs a (List.mem_append_right _ h))
end
theorem Reps.length : ∀ {vs : List V} {ds : List D}, Reps g Z M H vs ds → vs.length = ds.length
  | _, _, .nil => rfl
  | _, _, .cons _ rs => by rw [List.length_cons, List.length_cons, rs.length]
theorem Reps.get : ∀ {vs : List V} {ds : List D} {i : Nat} {d : D}, Reps g Z M H vs ds → ds[i]? = some d → ∃ v, vs[i]? = some v ∧ Rep g Z M H v d
  | _, _, _, _, .nil, e => by simp at e
  | _, _, 0, _, .cons r _, e => by simp at e; subst e; exact ⟨_, rfl, r⟩
  | _, _, i + 1, d, .cons _ rs, e => by
    obtain ⟨v, h1, h2⟩ := rs.get (i := i) (d := d) (by simpa using e)
    exact ⟨v, by simpa using h1, h2⟩
theorem Reps.append : ∀ {vs : List V} {ds : List D} {vs' : List V} {ds' : List D}, Reps g Z M H vs ds → Reps g Z M H vs' ds' → Reps g Z M H (vs ++ vs') (ds ++ ds')
  | _, _, _, _, .nil, q => q
  | _, _, _, _, .cons r rs, q => .cons r (rs.append q)
theorem Reps.take : ∀ (n : Nat) {vs : List V} {ds : List D}, Reps g Z M H vs ds → Reps g Z M H (vs.take n) (ds.take n)
  | 0, _, _, _ => by rw [List.take_zero, List.take_zero]; exact .nil
  | _ + 1, _, _, .nil => .nil
  | n + 1, _, _, .cons r rs => .cons r (rs.take n)
theorem Reps.drop : ∀ (n : Nat) {vs : List V} {ds : List D}, Reps g Z M H vs ds → Reps g Z M H (vs.drop n) (ds.drop n)
  | 0, _, _, r => r
  | _ + 1, _, _, .nil => .nil
  | n + 1, _, _, .cons _ rs => rs.drop n
theorem Reps.set {v : V} {d : D} (r : Rep g Z M H v d) : ∀ (i : Nat) {vs : List V} {ds : List D}, Reps g Z M H vs ds → Reps g Z M H (vs.set i v) (ds.set i d)
  | _, _, _, .nil => .nil
  | 0, _, _, .cons _ rs => .cons r rs
  | i + 1, _, _, .cons q rs => .cons q (Reps.set r i rs)
end
end VS
set_option Elab.async false
set_option linter.all false
set_option maxRecDepth 100000
set_option maxHeartbeats 4000000
/-! VS2: states, what an expression does to data (EJ). Own work. -/
namespace VS
open PySem PySem.Spec PyProof.Rows
open L2 (V Hp HO upd SqL SqT Rd Cx TE TT TA TS VK XK WX PE PT PA PS PSs)
/-- what an expression yields: shared data; a look at an owned list; something new, owned by nobody yet -/
inductive EV where
  | v (d : D)
  | b (ds : List D)
  | m (s : Sl)
  | p (i : Nat)
/-- an exception: its class's name, its fields -/
structure Exc where
  cn : Str
  ns : List Str
  ds : List D
abbrev Rho := List Sl
inductive RepS (g : Ge) (Z : Addr → Prop) (M : Addr → Prop) (H : Hp) : L2.St → Rho → List Addr → Prop
  | nil : RepS g Z M H [] [] []
  | no {x : Option V} {σ : L2.St} {ρ : Rho} {as : List Addr} : RepS g Z M H σ ρ as → RepS g Z M H (x :: σ) (.no :: ρ) as
  | yes {v : V} {s : Sl} {σ : L2.St} {ρ : Rho} {as bs : List Addr} : RepO g Z M H v s as → RepS g Z M H σ ρ bs → RepS g Z M H (some v :: σ) (s :: ρ) (as ++ bs)
/-- a def's run: K and the globals; Z: what the callers own; the heap at its entry; what it may change of what it was handed -/
structure Fr where
  g : Ge
  Z : Addr → Prop
  H0 : Hp
  io : List Addr
  zd : ∀ a, Z a → H0 a ≠ none
  zi : ∀ a ∈ io, ¬ Z a
  /-- the slots of what it was handed to change; they keep what they hold -/
  mask : List Bool
  s0 : L2.St
/-- the slots hold ρ; M: all that is owned, T: that which is owned by values on their way -/
structure SR (c : Fr) (M : Addr → Prop) (T : List Addr) (σ : L2.St) (H : Hp) (ρ : Rho) : Prop where
  slots : ∃ Ms, RepS c.g c.Z M H σ ρ Ms ∧ (Ms ++ T).Nodup ∧ ∀ a ∈ Ms ++ T, M a
  ty : ∀ a, M a → Typed H a
  src : ∀ a, M a → a ∈ c.io ∨ c.H0 a = none
  keep : ∀ b o, c.H0 b = some o → b ∉ c.io → H b = some o
  pin : ∀ j : Nat, c.mask[j]? = some true → σ[j]? = c.s0[j]?
  ln : σ.length = c.s0.length
structure Post (c : Fr) (p : Bool) (σ : L2.St) (M : Addr → Prop) (T : List Addr) (H : Hp) (M' : Addr → Prop) (T' : List Addr) (H' : Hp) (ρ' : Rho) : Prop where
  sr : SR c M' T' σ H' ρ'
  keep : ∀ b o, H b = some o → (M b → b ∈ T) → H' b = some o
  new : ∀ a, M' a → M a ∨ H a = none
  pu : p = true → Ext H H'
/-- v stands for what was yielded; as: what it owns -/
inductive VRg (g : Ge) (Z : Addr → Prop) (M : Addr → Prop) (H : Hp) : V → EV → List Addr → Prop
  | v {v : V} {d : D} : Rep g Z M H v d → VRg g Z M H v (.v d) []
  | b {a : Addr} {vs : List V} {ds : List D} : H a = some (.lst vs) → Reps g Z M H vs ds → VRg g Z M H (.ref a) (.b ds) []
  | m {v : V} {s : Sl} {as : List Addr} : RepO g Z M H v s as → VRg g Z M H v (.m s) as
abbrev VR (c : Fr) := VRg c.g c.Z
inductive XRg (g : Ge) (Z : Addr → Prop) (M : Addr → Prop) (H : Hp) : Value → Option Addr → Exc → Prop
  | no {C : Addr} {cn : Str} : g.mg cn = some (.ref C) → XRg g Z M H (.ref C) none ⟨cn, [], []⟩
  | yes {C d : Addr} {cn : Str} {fs : List (Str × V)} {ns : List Str} {vs : List V} {ds : List D} : g.mg cn = some (.ref C) → H d = some (.xd fs) → fs.map (·.1) = ns → fs.map (·.2) = vs → Reps g Z M H vs ds → XRg g Z M H (.ref C) (some d) ⟨cn, ns, ds⟩
abbrev XRep (c : Fr) := XRg c.g c.Z
abbrev ES := Rho → (EV → Rho → Prop) → (Exc → Rho → Prop) → Prop
section
variable {c : Fr} {p p1 p2 : Bool} {σ : L2.St} {M M1 M2 M' : Addr → Prop} {T T1 T2 T' : List Addr} {H H1 H2 H' : Hp} {ρ ρ1 ρ2 ρ' : Rho} {W : WX}
theorem SR.drop {as : List Addr} (s : SR c M (as ++ T) σ H ρ) : SR c M T σ H ρ := by
  obtain ⟨Ms, r, nd, al⟩ := s.slots
  refine ⟨⟨Ms, r, ?_, fun a h => al a ?_⟩, s.ty, s.src, s.keep, s.pin, s.ln⟩
  · exact nd.sublist (List.Sublist.append (List.Sublist.refl _) (List.sublist_append_right _ _))
  · rcases List.mem_append.mp h with h | h
    · exact List.mem_append_left _ h
    · exact List.mem_append_right _ (List.mem_append_right _ h)
theorem Post.drop {as : List Addr} (q : Post c p σ M T H M' (as ++ T') H' ρ') : Post c p σ M T H M' T' H' ρ' := ⟨q.sr.drop, q.keep, q.new, q.pu⟩
theorem Post.refl (s : SR c M T σ H ρ) : Post c p σ M T H M T H ρ := ⟨s, fun _ _ h _ => h, fun _ h => .inl h, fun _ => Ext.refl _⟩
theorem Post.trans {σ0 : L2.St} (a : Post c p1 σ0 M T H M1 T1 H1 ρ1) (b : Post c p2 σ M1 T1 H1 M2 T2 H2 ρ2) (ht : ∀ x ∈ T, x ∈ T1) : Post c (p1 && p2) σ M T H M2 T2 H2 ρ2 := by
  have k : ∀ b o, H b = some o → (M b → b ∈ T) → (M1 b → b ∈ T1) := fun x o e h m => by
    rcases a.new x m with z | z
    · exact ht x (h z)
    · rw [e] at z; cases z
  refine ⟨b.sr, fun x o e h => b.keep x o (a.keep x o e h) (k x o e h), fun x m => ?_, fun e => ?_⟩
  · rcases b.new x m with z | z
    · exact a.new x z
    · by_cases hm : M x
      · exact .inl hm
      · refine .inr ?_
        cases q : H x with
        | none => rfl
        | some o => rw [a.keep x o q fun y => absurd y hm] at z; cases z
  · rw [Bool.and_eq_true] at e
    exact (a.pu e.1).trans (b.pu e.2)
theorem Post.weak (a : Post c p σ M T H M' T' H' ρ') : Post c false σ M T H M' T' H' ρ' := ⟨a.sr, a.keep, a.new, fun e => nomatch e⟩
theorem Post.mv {σ' : L2.St} (s : SR c M T σ H ρ) (q : Post c p σ' M T H M' T' H' ρ') : Moved (fun a => M a ∧ a ∉ T) M M' H H' :=
  ⟨fun b o e h => q.keep b o e fun m => Classical.byContradiction fun z => h ⟨m, z⟩, fun a h => s.ty a h.1, fun a h => h.1, q.new⟩
/-- what was yielded before stands: but a look at an owned list only where nothing was changed -/
def okB (p : Bool) : EV → Prop
  | .b _ => p = true
  | _ => True
theorem VR.next {v : V} {x : EV} {as : List Addr} (r : VR c M H v x as) {σ' : L2.St} (s : SR c M T σ H ρ) (q : Post c p σ' M T H M' T' H' ρ') (ht : ∀ a ∈ as, a ∈ T) (ok : okB p x) : VR c M' H' v x as := by
  have m := q.mv s
  cases r with
  | v r => exact .v (r.moved m)
  | b l r => exact .b (q.pu ok _ _ l) (r.moved m)
  | m r => exact .m (r.moved m fun a h z => z.2 (ht a h))
theorem RepS.len {g : Ge} {Z : Addr → Prop} : ∀ {σ : L2.St} {ρ : Rho} {as : List Addr}, RepS g Z M H σ ρ as → σ.length = ρ.length
  | _, _, _, .nil => rfl
  | _, _, _, .no r => by rw [List.length_cons, List.length_cons, r.len]
  | _, _, _, .yes _ r => by rw [List.length_cons, List.length_cons, r.len]
theorem RepS.moved {g : Ge} {Z : Addr → Prop} {ch : Addr → Prop} (m : Moved ch M M' H H') : ∀ {σ : L2.St} {ρ : Rho} {as : List Addr}, RepS g Z M H σ ρ as → (∀ a ∈ as, ¬ ch a) → RepS g Z M' H' σ ρ as
  | _, _, _, .nil, _ => .nil
  | _, _, _, .no r, h => .no (r.moved m h)
  | _, _, _, .yes q r, h => .yes (q.moved m fun a z => h a (List.mem_append_left _ z)) (r.moved m fun a z => h a (List.mem_append_right _ z))
/-- a new object -/
theorem SR.ext (s : SR c M T σ H ρ) (x : Ext H H') : SR c M T σ H' ρ := by
  obtain ⟨Ms, r, nd, al⟩ := s.slots
  refine ⟨⟨Ms, r.moved x.mv (fun _ _ z => z), nd, al⟩, fun a h => ?_, s.src, fun b o e hb => x b o (s.keep b o e hb), s.pin, s.ln⟩
  rcases s.ty a h with ⟨_, e⟩ | ⟨_, _, _, e⟩ | ⟨_, e⟩
  · exact .inl ⟨_, x _ _ e⟩
  · exact .inr (.inl ⟨_, _, _, x _ _ e⟩)
  · exact .inr (.inr ⟨_, x _ _ e⟩)
theorem Post.ext (s : Post c p σ M T H M' T' H' ρ') (x : Ext H' H2) : Post c p σ M T H M' T' H2 ρ' := ⟨s.sr.ext x, fun b o e h => x b o (s.keep b o e h), s.new, fun e => (s.pu e).trans x⟩
end
/-- what e does: f; p: it changes nothing that was there -/
def rdE (c : Fr) (W : WX) (p : Bool) (f : ES) : TE := fun σ H Q => ∃ ρ M T, SR c M T σ H ρ ∧
  f ρ (fun ev ρ' => ∀ v H' M' as, Post c p σ M T H M' (as ++ T) H' ρ' → VR c M' H' v ev as → Q v H')
    (fun x ρ' => ∀ cls dd H' M', Post c false σ M T H M' T H' ρ' → XRep c M' H' cls dd x → W cls dd σ H')
def Mono (f : ES) : Prop := ∀ ρ K K' E E', (∀ x ρ', K x ρ' → K' x ρ') → (∀ x ρ', E x ρ' → E' x ρ') → f ρ K E → f ρ K' E'
structure EJ (X : Cx) (c : Fr) (W : WX) (p : Bool) (e : Expr) (f : ES) : Prop where
  mono : Mono f
  run : PE X e (rdE c W p f)
theorem PE.imp {X : Cx} {e : Expr} {t t' : TE} (h : PE X e t) (i : ∀ σ H Q, t' σ H Q → t σ H Q) : PE X e t' := ⟨fun pins s σ H Q I q => h.run pins s σ H Q I (i σ H Q q)⟩
/-- two in a row -/
def bin (p2 : Bool) (f g : ES) (R : EV → EV → (EV → Rho → Prop) → (Exc → Rho → Prop) → Rho → Prop) : ES := fun ρ K E => f ρ (fun x ρ1 => g ρ1 (fun y ρ2 => okB p2 x ∧ R x y K E ρ2) E) E
theorem Mono.bin {p2 : Bool} {f g : ES} {R : EV → EV → (EV → Rho → Prop) → (Exc → Rho → Prop) → Rho → Prop} (hf : Mono f) (hg : Mono g) (hR : ∀ x y ρ K K' E E', (∀ x ρ', K x ρ' → K' x ρ') → (∀ x ρ', E x ρ' → E' x ρ') → R x y K E ρ → R x y K' E' ρ) :
    Mono (bin p2 f g R) := fun ρ K K' E E' hk he => hf _ _ _ _ _ (fun x ρ1 h => hg _ _ _ _ _ (fun y ρ2 ⟨o, q⟩ => ⟨o, hR _ _ _ _ _ _ _ hk he q⟩) he h) he
section
variable {X : Cx} {c : Fr} {W : WX} {p p1 p2 : Bool} {a b : Expr} {f g : ES} {R : EV → EV → (EV → Rho → Prop) → (Exc → Rho → Prop) → Rho → Prop} {Tm : V → V → Hp → VK → Prop}
theorem seq2 (hf : Mono f) (hg : Mono g)
    (hR : ∀ σ M T H M2 H2 ρ2 as1 as2 v u x y Q E, Post c (p1 && p2) σ M T H M2 (as2 ++ (as1 ++ T)) H2 ρ2 → VR c M2 H2 v x as1 → VR c M2 H2 u y as2 →
      R x y (fun ev ρ' => ∀ v H' M' as, Post c (p1 && p2) σ M T H M' (as ++ T) H' ρ' → VR c M' H' v ev as → Q v H') E ρ2 → Tm v u H2 Q) :
    ∀ σ H Q, rdE c W (p1 && p2) (bin p2 f g R) σ H Q → rdE c W p1 f σ H (fun v H1 => rdE c W p2 g σ H1 (fun u H2 => Tm v u H2 Q)) := by
  rintro σ H Q ⟨ρ, M, T, s, h⟩
  refine ⟨ρ, M, T, s, hf _ _ _ _ _ (fun x ρ1 h v H1 M1 as1 q1 r1 => ?_) (fun _ _ h => h) h⟩
  have ht : ∀ x ∈ T, x ∈ as1 ++ T := fun x hx => List.mem_append_right _ hx
  have k1 : ∀ y ρ2, (okB p2 x ∧ R x y (fun ev ρ' => ∀ v H' M' as, Post c (p1 && p2) σ M T H M' (as ++ T) H' ρ' → VR c M' H' v ev as → Q v H')
      (fun x ρ' => ∀ cls dd H' M', Post c false σ M T H M' T H' ρ' → XRep c M' H' cls dd x → W cls dd σ H') ρ2) →
      ∀ u H2 M2 as2, Post c p2 σ M1 (as1 ++ T) H1 M2 (as2 ++ (as1 ++ T)) H2 ρ2 → VR c M2 H2 u y as2 → Tm v u H2 Q := fun y ρ2 k u H2 M2 as2 q2 r2 =>
    hR σ M T H M2 H2 ρ2 as1 as2 v u x y Q _ (q1.trans q2 ht) (r1.next q1.sr q2 (fun a ha => List.mem_append_left _ ha) k.1) r2 k.2
  exact ⟨ρ1, M1, as1 ++ T, q1.sr, hg _ _ _ _ _ k1 (fun x ρ2 h cls dd H2 M2 q2 r2 => h cls dd H2 M2 (q1.trans q2 ht).weak.drop r2) h⟩
/-- two operands, then an operation on values -/
theorem ej_bin {e : Expr} (ha : EJ X c W p1 a f) (hb : EJ X c W p2 b g) (ht : PE X a (rdE c W p1 f) → PE X b (rdE c W p2 g) → PE X e (fun σ H Q => rdE c W p1 f σ H (fun v H1 => rdE c W p2 g σ H1 (fun u H2 => Tm v u H2 Q))))
    (hM : ∀ x y ρ K K' E E', (∀ x ρ', K x ρ' → K' x ρ') → (∀ x ρ', E x ρ' → E' x ρ') → R x y K E ρ → R x y K' E' ρ)
    (hR : ∀ σ M T H M2 H2 ρ2 as1 as2 v u x y Q E, Post c (p1 && p2) σ M T H M2 (as2 ++ (as1 ++ T)) H2 ρ2 → VR c M2 H2 v x as1 → VR c M2 H2 u y as2 →
      R x y (fun ev ρ' => ∀ v H' M' as, Post c (p1 && p2) σ M T H M' (as ++ T) H' ρ' → VR c M' H' v ev as → Q v H') E ρ2 → Tm v u H2 Q) :
    EJ X c W (p1 && p2) e (bin p2 f g R) := ⟨Mono.bin ha.mono hb.mono hM, PE.imp (ht ha.run hb.run) (seq2 ha.mono hb.mono hR)⟩
end
/-! ### constants and names -/
def cE (d : D) : ES := fun ρ K _ => K (.v d) ρ
/-- a name that holds shared data -/
def vE (i : Nat) : ES := fun ρ K _ => match ρ[i]? with
  | some (.v d) => K (.v d) ρ
  | _ => False
/-- a look at an owned list -/
def bE (i : Nat) : ES := fun ρ K _ => match ρ[i]? with
  | some (.l ds) => K (.b ds) ρ
  | _ => False
/-- an owned thing that is owned no more: from here on nobody changes it -/
def fE (i : Nat) : ES := fun ρ K _ => match ρ[i]? with
  | some s => (match frSl s with
    | some d => K (.v d) (ρ.set i (.v d))
    | none => False)
  | _ => False
/-- an owned thing handed on: the name is empty from here on -/
def mE (i : Nat) : ES := fun ρ K _ => match ρ[i]? with
  | some .no => False
  | some s => K (.m s) (ρ.set i .no)
  | _ => False
section
variable {X : Cx} {c : Fr} {W : WX} {M M' : Addr → Prop} {T : List Addr} {σ : L2.St} {H H' : Hp} {ρ : Rho}
theorem RepS.get {g : Ge} {Z : Addr → Prop} : ∀ {σ : L2.St} {ρ : Rho} {Ms : List Addr} {i : Nat} {s : Sl}, RepS g Z M H σ ρ Ms → ρ[i]? = some s → s ≠ .no → ∃ v as, σ[i]? = some (some v) ∧ RepO g Z M H v s as ∧ ∀ a ∈ as, a ∈ Ms
  | _, _, _, _, _, .nil, e, _ => by simp at e
  | _, _, _, 0, _, .no _, e, n => by simp at e; exact absurd e.symm n
  | _, _, _, 0, _, .yes q _, e, _ => by simp at e; subst e; exact ⟨_, _, rfl, q, fun a h => List.mem_append_left _ h⟩
  | _, _, _, i + 1, s, .no r, e, n => by
    obtain ⟨v, as, h1, h2, h3⟩ := r.get (i := i) (s := s) (by simpa using e) n
    exact ⟨v, as, by simpa using h1, h2, h3⟩
  | _, _, _, i + 1, s, .yes _ r, e, n => by
    obtain ⟨v, as, h1, h2, h3⟩ := r.get (i := i) (s := s) (by simpa using e) n
    exact ⟨v, as, by simpa using h1, h2, fun a h => List.mem_append_right _ (h3 a h)⟩
theorem Post.same (s : SR c M T σ H ρ) {p : Bool} : Post c p σ M T H M ([] ++ T) H ρ := Post.refl s
theorem ej_int {i : Int} {j pos} : EJ X c W true (.Constant (.int i) j pos) (cE (.int i)) := ⟨fun ρ K K' E E' hk _ h => hk _ _ h, PE.imp L2.pe_int fun σ H Q ⟨ρ, M, T, s, h⟩ => h _ H M [] (Post.same s) (.v (.int i))⟩
theorem ej_bl {b : Bool} {j pos} : EJ X c W true (.Constant (.bool b) j pos) (cE (.bl b)) := ⟨fun ρ K K' E E' hk _ h => hk _ _ h, PE.imp L2.pe_bl fun σ H Q ⟨ρ, M, T, s, h⟩ => h _ H M [] (Post.same s) (.v (.bl b))⟩
theorem ej_non {j pos} : EJ X c W true (.Constant .none j pos) (cE .non) := ⟨fun ρ K K' E E' hk _ h => hk _ _ h, PE.imp L2.pe_non fun σ H Q ⟨ρ, M, T, s, h⟩ => h _ H M [] (Post.same s) (.v .non)⟩
/-- a constant of the module -/
theorem ej_glob {x : Str} {v : V} {d : D} {u : Value} {pos : Pos} (hg : L2.Gl X x) (hm : X.mg x = some u) (r : L2.RelV v u) (hr : ∀ (Z : Addr → Prop) (M : Addr → Prop) (H : Hp), Rep c.g Z M H v d) (hd : (x == ("__debug__" : Str)) = false := by decide) : EJ X c W true (.Name x pos) (cE d) :=
  ⟨fun ρ K K' E E' hk _ h => hk _ _ h, PE.imp (L2.pe_glob hg hm r hd) fun σ H Q ⟨ρ, M, T, s, h⟩ => h v H M [] (Post.same s) (.v (hr _ M H))⟩
theorem SR.read (s : SR c M T σ H ρ) {i : Nat} {x : Sl} (e : ρ[i]? = some x) (n : x ≠ .no) : ∃ v as, σ[i]? = some (some v) ∧ RepO c.g c.Z M H v x as ∧ (∀ a ∈ as, M a ∧ a ∉ T) := by
  obtain ⟨Ms, r, nd, al⟩ := s.slots
  obtain ⟨v, as, h1, h2, h3⟩ := r.get e n
  exact ⟨v, as, h1, h2, fun a h => ⟨al a (List.mem_append_left _ (h3 a h)), fun z => (List.nodup_append.mp nd).2.2 a (h3 a h) a z rfl⟩⟩
theorem ej_v {i : Nat} {e : Expr} (he : PE X e (L2.tVar i)) : EJ X c W true e (vE i) := by
  refine ⟨fun ρ K K' E E' hk _ h => ?_, PE.imp he fun σ H Q ⟨ρ, M, T, s, h⟩ => ?_⟩
  · unfold vE at h ⊢
    split at h
    · exact hk _ _ h
    · exact h
  · unfold vE at h
    split at h
    · rename_i d e
      obtain ⟨v, as, h1, h2, _⟩ := s.read e (by simp)
      cases h2 with
      | v r => exact ⟨v, h1, h v H M [] (Post.same s) (.v r)⟩
    · exact h.elim
/-- a slot gets something else: what it owned is owned by nobody, what comes is owned by it -/
theorem RepS.put {g : Ge} {Z : Addr → Prop} {v : V} {s : Sl} {as : List Addr} (q : RepO g Z M H v s as) : ∀ {σ : L2.St} {ρ : Rho} {Ms : List Addr} {i : Nat}, RepS g Z M H σ ρ Ms → i < ρ.length →
    ∃ Ms', RepS g Z M H (σ.set i (some v)) (ρ.set i s) Ms' ∧ (∀ a ∈ Ms', a ∈ Ms ∨ a ∈ as) ∧ (Ms.Nodup → as.Nodup → (∀ a ∈ as, a ∉ Ms) → Ms'.Nodup)
  | _, _, _, _, .nil, h => absurd h (by simp)
  | _ :: σ, _ :: ρ, Ms, 0, .no r, h => ⟨as ++ Ms, .yes q r, fun a h => (List.mem_append.mp h).symm, fun n1 n2 n3 => List.nodup_append.mpr ⟨n2, n1, fun a ha b hb e => n3 a ha (e ▸ hb)⟩⟩
  | some u :: σ, _ :: ρ, _, 0, .yes (as := bs) (bs := cs) _ r, h => ⟨as ++ cs, .yes q r, fun a h => by
      rcases List.mem_append.mp h with h | h
      · exact .inr h
      · exact .inl (List.mem_append_right _ h), fun n1 n2 n3 => List.nodup_append.mpr ⟨n2, (List.nodup_append.mp n1).2.1, fun a ha b hb e => n3 a ha (e ▸ List.mem_append_right _ hb)⟩⟩
  | _ :: σ, _ :: ρ, Ms, i + 1, .no r, h => by
    obtain ⟨Ms', h1, h2, h3⟩ := r.put q (i := i) (by simpa using h)
    exact ⟨Ms', .no h1, h2, h3⟩
  | some u :: σ, s' :: ρ, _, i + 1, .yes (as := bs) (bs := cs) o r, h => by
    obtain ⟨Ms', h1, h2, h3⟩ := r.put q (i := i) (by simpa using h)
    refine ⟨bs ++ Ms', .yes o h1, fun a h => ?_, fun n1 n2 n3 => ?_⟩
    · rcases List.mem_append.mp h with h | h
      · exact .inl (List.mem_append_left _ h)
      · rcases h2 a h with h | h
        · exact .inl (List.mem_append_right _ h)
        · exact .inr h
    · obtain ⟨m1, m2, m3⟩ := List.nodup_append.mp n1
      refine List.nodup_append.mpr ⟨m1, h3 m2 n2 fun a ha z => n3 a ha (List.mem_append_right _ z), fun a ha b hb e => ?_⟩
      subst e
      rcases h2 a hb with z | z
      · exact m3 a ha a z rfl
      · exact n3 a z (List.mem_append_left _ ha)
/-- a slot is emptied: what it owned -/
theorem RepS.out {g : Ge} {Z : Addr → Prop} : ∀ {σ : L2.St} {ρ : Rho} {Ms : List Addr} {i : Nat} {s : Sl}, RepS g Z M H σ ρ Ms → ρ[i]? = some s → s ≠ .no →
    ∃ v as Ms', σ[i]? = some (some v) ∧ RepO g Z M H v s as ∧ RepS g Z M H σ (ρ.set i .no) Ms' ∧ (∀ a ∈ as, a ∈ Ms) ∧ (∀ a ∈ Ms', a ∈ Ms) ∧ (Ms.Nodup → as.Nodup ∧ Ms'.Nodup ∧ ∀ a ∈ as, a ∉ Ms')
  | _, _, _, _, _, .nil, e, _ => by simp at e
  | _, _, _, 0, _, .no _, e, n => by simp at e; exact absurd e.symm n
  | _, _, _, 0, _, .yes (as := bs) (bs := cs) q r, e, _ => by
    simp at e
    subst e
    exact ⟨_, bs, cs, rfl, q, .no r, fun a h => List.mem_append_left _ h, fun a h => List.mem_append_right _ h, fun n => ⟨(List.nodup_append.mp n).1, (List.nodup_append.mp n).2.1, fun a h z => (List.nodup_append.mp n).2.2 a h a z rfl⟩⟩
  | _, _, _, i + 1, s, .no r, e, n => by
    obtain ⟨v, as, Ms', h1, h2, h3, h4, h5, h6⟩ := r.out (i := i) (s := s) (by simpa using e) n
    exact ⟨v, as, Ms', by simpa using h1, h2, .no h3, h4, h5, h6⟩
  | _, _, _, i + 1, s, .yes (as := bs) (bs := cs) q r, e, n => by
    obtain ⟨v, as, Ms', h1, h2, h3, h4, h5, h6⟩ := r.out (i := i) (s := s) (by simpa using e) n
    refine ⟨v, as, bs ++ Ms', by simpa using h1, h2, .yes q h3, fun a h => List.mem_append_right _ (h4 a h), fun a h => ?_, fun nd => ?_⟩
    · rcases List.mem_append.mp h with h | h
      · exact List.mem_append_left _ h
      · exact List.mem_append_right _ (h5 a h)
    · obtain ⟨m1, m2, m3⟩ := List.nodup_append.mp nd
      obtain ⟨k1, k2, k3⟩ := h6 m2
      refine ⟨k1, List.nodup_append.mpr ⟨m1, k2, fun a ha b hb e => m3 a ha b (h5 b hb) e⟩, fun a ha z => ?_⟩
      rcases List.mem_append.mp z with z | z
      · exact m3 a z a (h4 a ha) rfl
      · exact k3 a ha z
end
end VS
set_option Elab.async false
set_option linter.all false
set_option maxRecDepth 100000
set_option maxHeartbeats 4000000
/-! VS3: names handed on, tests, argument lists, displays, operators. Own work. -/
namespace VS
open PySem PySem.Spec PyProof.Rows
open L2 (V Hp HO upd SqL SqT Rd Cx TE TT TA TS VK XK WX PE PT PA PS PSs)
section
variable {X : Cx} {c : Fr} {W : WX} {M M' : Addr → Prop} {T T' : List Addr} {σ : L2.St} {H H' : Hp} {ρ ρ' : Rho} {p p1 p2 : Bool}
theorem RepS.re {g : Ge} {Z Z' : Addr → Prop} (hM : ∀ a, H a ≠ none → ¬ M a → ¬ M' a) (hZ : ∀ a, H a ≠ none → ¬ M a → ¬ Z a → ¬ Z' a) : ∀ {σ : L2.St} {ρ : Rho} {as : List Addr}, RepS g Z M H σ ρ as → RepS g Z' M' H σ ρ as
  | _, _, _, .nil => .nil
  | _, _, _, .no r => .no (r.re hM hZ)
  | _, _, _, .yes q r => .yes (q.re hM hZ) (r.re hM hZ)
theorem set_get {α : Type} {l : List α} {i : Nat} {x : α} (h : l[i]? = some x) : l.set i x = l := by
  obtain ⟨hi, e⟩ := List.getElem?_eq_some_iff.mp h
  rw [← e]; exact List.set_getElem_self hi
theorem ej_m {i : Nat} {e : Expr} (he : PE X e (L2.tVar i)) : EJ X c W false e (mE i) := by
  refine ⟨fun ρ K K' E E' hk _ h => ?_, PE.imp he fun σ H Q ⟨ρ, M, T, s, h⟩ => ?_⟩
  · unfold mE at h ⊢
    split at h
    · exact h
    · exact hk _ _ h
    · exact h
  · unfold mE at h
    split at h
    · exact h.elim
    · rename_i x hn e
      obtain ⟨Ms, r, nd, al⟩ := s.slots
      obtain ⟨v, as, Ms', h1, h2, h3, h4, h5, h6⟩ := r.out e (fun z => hn z)
      obtain ⟨k1, k2, k3⟩ := h6 (List.nodup_append.mp nd).1
      refine ⟨v, h1, h v H M as ⟨⟨⟨Ms', h3, ?_, fun a ha => ?_⟩, s.ty, s.src, s.keep, s.pin, s.ln⟩, fun _ _ q _ => q, fun _ q => .inl q, fun e => nomatch e⟩ (.m h2)⟩
      · obtain ⟨_, n2, n3⟩ := List.nodup_append.mp nd
        refine List.nodup_append.mpr ⟨k2, List.nodup_append.mpr ⟨k1, n2, fun a ha b hb e => n3 a (h4 a ha) b hb e⟩, fun a ha b hb e => ?_⟩
        rcases List.mem_append.mp hb with hb | hb
        · exact k3 b hb (e ▸ ha)
        · exact n3 a (h5 a ha) b hb e
      · rcases List.mem_append.mp ha with ha | ha
        · exact al a (List.mem_append_left _ (h5 a ha))
        · rcases List.mem_append.mp ha with ha | ha
          · exact al a (List.mem_append_left _ (h4 a ha))
          · exact al a (List.mem_append_right _ ha)
    · exact h.elim
end
/-! ### tests -/
abbrev BS := Rho → (Bool → Rho → Prop) → (Exc → Rho → Prop) → Prop
def MonoB (f : BS) : Prop := ∀ ρ K K' E E', (∀ x ρ', K x ρ' → K' x ρ') → (∀ x ρ', E x ρ' → E' x ρ') → f ρ K E → f ρ K' E'
def rdT (c : Fr) (W : WX) (p : Bool) (f : BS) : TT := fun σ H Q => ∃ ρ M T, SR c M T σ H ρ ∧
  f ρ (fun b ρ' => ∀ H' M', Post c p σ M T H M' T H' ρ' → Q b H')
    (fun x ρ' => ∀ cls dd H' M', Post c false σ M T H M' T H' ρ' → XRep c M' H' cls dd x → W cls dd σ H')
structure TJ (X : Cx) (c : Fr) (W : WX) (p : Bool) (e : Expr) (f : BS) : Prop where
  mono : MonoB f
  run : PT X e (rdT c W p f)
structure WJ (X : Cx) (c : Fr) (W : WX) (p : Bool) (e : Expr) (f : BS) : Prop where
  mono : MonoB f
  run : L2.PW X e (rdT c W p f)
theorem PT.imp {X : Cx} {e : Expr} {t t' : TT} (h : PT X e t) (i : ∀ σ H Q, t' σ H Q → t σ H Q) : PT X e t' := ⟨fun pins s σ H Q I q => h.run pins s σ H Q I (i σ H Q q)⟩
theorem PW.imp {X : Cx} {e : Expr} {t t' : TT} (h : L2.PW X e t) (i : ∀ σ H Q, t' σ H Q → t σ H Q) : L2.PW X e t' := ⟨fun wh pins s σ H Q I q => h.run wh pins s σ H Q I (i σ H Q q)⟩
section
variable {X : Cx} {c : Fr} {W : WX} {p p1 p2 : Bool} {a b : Expr} {f g : BS}
theorem WJ.tj {e : Expr} (h : WJ X c W p e f) : TJ X c W p e f := ⟨h.mono, h.run.pt⟩
/-- a value that is a bool, as a test -/
def bT (f : ES) : BS := fun ρ K E => f ρ (fun x ρ' => match x with
  | .v (.bl b) => K b ρ'
  | _ => False) E
theorem MonoB.bT {f : ES} (hf : Mono f) : MonoB (bT f) := fun ρ K K' E E' hk he h => hf _ _ _ _ _ (fun x ρ' h => by
  split at h
  · exact hk _ _ h
  · exact h) he h
theorem bT_run {f : ES} (hf : Mono f) : ∀ σ H Q, rdT c W p (bT f) σ H Q → rdE c W p f σ H (fun v H1 => ∃ k, v = .bl k ∧ Q k H1) := by
  rintro σ H Q ⟨ρ, M, T, s, h⟩
  refine ⟨ρ, M, T, s, hf _ _ _ _ _ (fun x ρ' h v H' M' as q r => ?_) (fun _ _ h => h) h⟩
  split at h
  · rename_i b
    cases r with
    | v r => cases r; exact ⟨b, rfl, h H' M' q.drop⟩
  · exact h.elim
theorem tj_of {f : ES} {e : Expr} (h : EJ X c W p e f) (ht : PE X e (rdE c W p f) → PT X e (L2.tTest (rdE c W p f))) : TJ X c W p e (bT f) := ⟨MonoB.bT h.mono, PT.imp (ht h.run) (bT_run h.mono)⟩
/-- any expression whose value is a bool: a call, a name .. (not and, or, not, a comparison) -/
theorem tj_val {f : ES} {e : Expr} (h : EJ X c W p e f) (he : ∀ whole, isTrue e X.env whole = (do let v ← whole; standAt e.pos; holding [v] (truthy v)) := by intro _; rfl) : TJ X c W p e (bT f) :=
  tj_of h fun q => L2.pt_val q he
def andT (f g : BS) : BS := fun ρ K E => f ρ (fun b ρ1 => if b = true then g ρ1 K E else K false ρ1) E
def orT (f g : BS) : BS := fun ρ K E => f ρ (fun b ρ1 => if b = true then K true ρ1 else g ρ1 K E) E
def notT (f : BS) : BS := fun ρ K E => f ρ (fun b ρ1 => K (!b) ρ1) E
theorem andT_mono (hf : MonoB f) (hg : MonoB g) : MonoB (andT f g) := fun ρ K K' E E' hk he h => hf _ _ _ _ _ (fun b ρ1 h => by
  split at h
  · rename_i hb; rw [if_pos hb]; exact hg _ _ _ _ _ hk he h
  · rename_i hb; rw [if_neg hb]; exact hk _ _ h) he h
theorem orT_mono (hf : MonoB f) (hg : MonoB g) : MonoB (orT f g) := fun ρ K K' E E' hk he h => hf _ _ _ _ _ (fun b ρ1 h => by
  split at h
  · rename_i hb; rw [if_pos hb]; exact hk _ _ h
  · rename_i hb; rw [if_neg hb]; exact hg _ _ _ _ _ hk he h) he h
theorem Post.left {σ : L2.St} {M M' : Addr → Prop} {T T' : List Addr} {H H' : Hp} {ρ' : Rho} (q : Post c p1 σ M T H M' T' H' ρ') : Post c (p1 && p2) σ M T H M' T' H' ρ' :=
  ⟨q.sr, q.keep, q.new, fun e => q.pu (by rw [Bool.and_eq_true] at e; exact e.1)⟩
theorem wj_and1 {pos : Pos} (h : TJ X c W p a f) : WJ X c W p (.BoolOp .And [a] pos) f := ⟨h.mono, L2.pw_and1 h.run⟩
theorem wj_or1 {pos : Pos} (h : TJ X c W p a f) : WJ X c W p (.BoolOp .Or [a] pos) f := ⟨h.mono, L2.pw_or1 h.run⟩
theorem seqT (hf : MonoB f) (hg : MonoB g) (tf : Bool) (σ : L2.St) (H : Hp) (Q : Bool → Hp → Prop)
    (h : rdT c W (p1 && p2) (if tf then andT f g else orT f g) σ H Q) : rdT c W p1 f σ H (fun b H1 => if b = tf then rdT c W p2 g σ H1 Q else Q (!tf) H1) := by
  obtain ⟨ρ, M, T, s, h⟩ := h
  refine ⟨ρ, M, T, s, ?_⟩
  have go : ∀ (b : Bool) (ρ1 : Rho) (H1 : Hp) (M1 : Addr → Prop), Post c p1 σ M T H M1 T H1 ρ1 → g ρ1 (fun b ρ' => ∀ H' M', Post c (p1 && p2) σ M T H M' T H' ρ' → Q b H')
    (fun x ρ' => ∀ cls dd H' M', Post c false σ M T H M' T H' ρ' → XRep c M' H' cls dd x → W cls dd σ H') → rdT c W p2 g σ H1 Q := fun b ρ1 H1 M1 q h =>
    ⟨ρ1, M1, T, q.sr, hg _ _ _ _ _ (fun b2 ρ2 k H2 M2 q2 => k H2 M2 (q.trans q2 fun _ z => z)) (fun x ρ2 k cls dd H2 M2 q2 r2 => k cls dd H2 M2 (q.trans q2 fun _ z => z).weak r2) h⟩
  cases tf with
  | true =>
    refine hf _ _ _ _ _ (fun b ρ1 h H1 M1 q => ?_) (fun _ _ h => h) h
    cases b with
    | true => exact go true ρ1 H1 M1 q h
    | false => exact h H1 M1 q.left
  | false =>
    refine hf _ _ _ _ _ (fun b ρ1 h H1 M1 q => ?_) (fun _ _ h => h) h
    cases b with
    | true => exact h H1 M1 q.left
    | false => exact go false ρ1 H1 M1 q h
theorem wj_and {rest : List Expr} {pos : Pos} (ha : TJ X c W p1 a f) (hb : WJ X c W p2 (.BoolOp .And (b :: rest) pos) g) : WJ X c W (p1 && p2) (.BoolOp .And (a :: b :: rest) pos) (andT f g) := by
  refine ⟨andT_mono ha.mono hb.mono, PW.imp (L2.pw_and ha.run hb.run) fun σ H Q h => ?_⟩
  exact seqT ha.mono hb.mono true σ H Q h
theorem wj_or {rest : List Expr} {pos : Pos} (ha : TJ X c W p1 a f) (hb : WJ X c W p2 (.BoolOp .Or (b :: rest) pos) g) : WJ X c W (p1 && p2) (.BoolOp .Or (a :: b :: rest) pos) (orT f g) := by
  refine ⟨orT_mono ha.mono hb.mono, PW.imp (L2.pw_or ha.run hb.run) fun σ H Q h => ?_⟩
  obtain ⟨ρ, M, T, s, k⟩ := seqT ha.mono hb.mono false σ H Q h
  refine ⟨ρ, M, T, s, ha.mono _ _ _ _ _ (fun b ρ1 k H1 M1 q => ?_) (fun _ _ h => h) k⟩
  have k := k H1 M1 q
  cases b with
  | true => exact k
  | false => exact k
theorem tj_not {pos : Pos} (h : TJ X c W p a f) : TJ X c W p (.UnaryOp .Not a pos) (notT f) := by
  refine ⟨fun ρ K K' E E' hk he q => h.mono _ _ _ _ _ (fun b ρ1 => hk _ _) he q, PT.imp (L2.pt_not h.run) fun σ H Q q => q⟩
end
/-! ### argument lists -/
inductive VRs (c : Fr) (M : Addr → Prop) (H : Hp) : List V → List EV → List Addr → Prop
  | nil : VRs c M H [] [] []
  | cons {v : V} {x : EV} {as : List Addr} {vs : List V} {xs : List EV} {bs : List Addr} : VR c M H v x as → VRs c M H vs xs bs → VRs c M H (v :: vs) (x :: xs) (bs ++ as)
abbrev AS := Rho → (List EV → Rho → Prop) → (Exc → Rho → Prop) → Prop
def MonoA (f : AS) : Prop := ∀ ρ K K' E E', (∀ x ρ', K x ρ' → K' x ρ') → (∀ x ρ', E x ρ' → E' x ρ') → f ρ K E → f ρ K' E'
def rdA (c : Fr) (W : WX) (p : Bool) (f : AS) : TA := fun σ H Q => ∃ ρ M T, SR c M T σ H ρ ∧
  f ρ (fun xs ρ' => ∀ vs H' M' as, Post c p σ M T H M' (as ++ T) H' ρ' → VRs c M' H' vs xs as → Q vs H')
    (fun x ρ' => ∀ cls dd H' M', Post c false σ M T H M' T H' ρ' → XRep c M' H' cls dd x → W cls dd σ H')
structure AJ (X : Cx) (c : Fr) (W : WX) (p : Bool) (es : List Expr) (f : AS) : Prop where
  mono : MonoA f
  run : PA X es (rdA c W p f)
theorem PA.imp {X : Cx} {es : List Expr} {t t' : TA} (h : PA X es t) (i : ∀ σ H Q, t' σ H Q → t σ H Q) : PA X es t' := ⟨fun pos pins s σ H Q I q => h.run pos pins s σ H Q I (i σ H Q q)⟩
def nilA : AS := fun ρ K _ => K [] ρ
def consA (p2 : Bool) (f : ES) (g : AS) : AS := fun ρ K E => f ρ (fun x ρ1 => g ρ1 (fun xs ρ2 => okB p2 x ∧ K (x :: xs) ρ2) E) E
section
variable {X : Cx} {c : Fr} {W : WX} {p p1 p2 : Bool} {e : Expr} {es : List Expr} {f : ES} {g : AS}
theorem aj_nil : AJ X c W true [] nilA := ⟨fun ρ K K' E E' hk _ h => hk _ _ h, PA.imp L2.pa_nil fun σ H Q ⟨ρ, M, T, s, h⟩ => h [] H M [] (Post.same s) .nil⟩
theorem aj_cons (he : EJ X c W p1 e f) (hr : AJ X c W p2 es g) (hs : starEach (e :: es) X.env = (false, eval e X.env) :: starEach es X.env := by rfl) : AJ X c W (p1 && p2) (e :: es) (consA p2 f g) := by
  refine ⟨fun ρ K K' E E' hk hx h => he.mono _ _ _ _ _ (fun x ρ1 h => hr.mono _ _ _ _ _ (fun xs ρ2 h => ⟨h.1, hk _ _ h.2⟩) hx h) hx h, PA.imp (L2.pa_cons he.run hr.run hs) ?_⟩
  rintro σ H Q ⟨ρ, M, T, s, h⟩
  refine ⟨ρ, M, T, s, he.mono _ _ _ _ _ (fun x ρ1 h v H1 M1 as1 q1 r1 => ?_) (fun _ _ h => h) h⟩
  have ht : ∀ x ∈ T, x ∈ as1 ++ T := fun x hx => List.mem_append_right _ hx
  have k1 : ∀ xs ρ2, (okB p2 x ∧ ∀ vs H' M' as, Post c (p1 && p2) σ M T H M' (as ++ T) H' ρ2 → VRs c M' H' vs (x :: xs) as → Q vs H') →
      ∀ us H2 M2 as2, Post c p2 σ M1 (as1 ++ T) H1 M2 (as2 ++ (as1 ++ T)) H2 ρ2 → VRs c M2 H2 us xs as2 → Q (v :: us) H2 := fun xs ρ2 k us H2 M2 as2 q2 r2 => by
    refine k.2 _ H2 M2 (as2 ++ as1) ?_ (.cons (r1.next q1.sr q2 (fun a ha => List.mem_append_left _ ha) k.1) r2)
    rw [List.append_assoc]
    exact q1.trans q2 ht
  exact ⟨ρ1, M1, as1 ++ T, q1.sr, hr.mono _ _ _ _ _ k1 (fun x ρ2 h cls dd H2 M2 q2 r2 => h cls dd H2 M2 (q1.trans q2 ht).weak.drop r2) h⟩
end
/-! ### tuples, lists -/
/-- shared, each of them -/
def allV : List EV → Option (List D)
  | [] => some []
  | .v d :: xs => (allV xs).map (d :: ·)
  | .b _ :: _ => none
  | .m _ :: _ => none
  | .p _ :: _ => none
/-- owned, each of them -/
def allM : List EV → Option (List Sl)
  | [] => some []
  | .v d :: xs => (allM xs).map (.v d :: ·)
  | .m s :: xs => (allM xs).map (s :: ·)
  | .b _ :: _ => none
  | .p _ :: _ => none
theorem VRs.allV {c : Fr} {M : Addr → Prop} {H : Hp} : ∀ {vs : List V} {xs : List EV} {as : List Addr} {ds : List D}, VRs c M H vs xs as → allV xs = some ds → Reps c.g c.Z M H vs ds ∧ as = []
  | _, _, _, _, .nil, e => by rw [VS.allV] at e; cases e; exact ⟨.nil, rfl⟩
  | _, .v d :: xs, _, _, .cons r rs, e => by
    rw [VS.allV] at e
    cases q : VS.allV xs with
    | none => rw [q] at e; cases e
    | some ds =>
      rw [q] at e; cases e
      obtain ⟨h1, h2⟩ := rs.allV q
      cases r with
      | v r => exact ⟨.cons r h1, by rw [h2]; rfl⟩
  | _, .b _ :: _, _, _, _, e => by simp [VS.allV] at e
  | _, .m _ :: _, _, _, _, e => by simp [VS.allV] at e
  | _, .p _ :: _, _, _, _, e => by simp [VS.allV] at e
theorem RepOs.perm {g : Ge} {Z M : Addr → Prop} {H : Hp} {vs : List V} {ss : List Sl} {as : List Addr} (r : RepOs g Z M H vs ss as) : RepOs g Z M H vs ss as := r
theorem VRs.allM {c : Fr} {M : Addr → Prop} {H : Hp} : ∀ {vs : List V} {xs : List EV} {as : List Addr} {ss : List Sl}, VRs c M H vs xs as → allM xs = some ss → ∃ bs, RepOs c.g c.Z M H vs ss bs ∧ (∀ a, a ∈ bs ↔ a ∈ as) ∧ (as.Nodup → bs.Nodup)
  | _, _, _, _, .nil, e => by rw [VS.allM] at e; cases e; exact ⟨[], .nil, fun _ => Iff.rfl, fun h => h⟩
  | _, .v d :: xs, _, _, .cons (as := as) (bs := bs) r rs, e => by
    rw [VS.allM] at e
    cases q : VS.allM xs with
    | none => rw [q] at e; cases e
    | some ss =>
      rw [q] at e; cases e
      obtain ⟨cs, h1, h2, h3⟩ := rs.allM q
      cases r with
      | v r => exact ⟨[] ++ cs, .cons (.v r) h1, fun a => by simpa using h2 a, fun h => by simpa using h3 (by simpa using h)⟩
  | _, .m s :: xs, _, _, .cons (as := as) (bs := bs) r rs, e => by
    rw [VS.allM] at e
    cases q : VS.allM xs with
    | none => rw [q] at e; cases e
    | some ss =>
      rw [q] at e; cases e
      obtain ⟨cs, h1, h2, h3⟩ := rs.allM q
      cases r with
      | m r =>
        refine ⟨as ++ cs, .cons r h1, fun a => ?_, fun h => ?_⟩
        · rw [List.mem_append, List.mem_append, h2 a]; exact Or.comm
        · obtain ⟨n1, n2, n3⟩ := List.nodup_append.mp h
          exact List.nodup_append.mpr ⟨n2, h3 n1, fun a ha b hb e => n3 b ((h2 b).mp hb) a ha e.symm⟩
  | _, .b _ :: _, _, _, _, e => by simp [VS.allM] at e
  | _, .p _ :: _, _, _, _, e => by simp [VS.allM] at e
theorem VRs.length {c : Fr} {M : Addr → Prop} {H : Hp} : ∀ {vs : List V} {xs : List EV} {as : List Addr}, VRs c M H vs xs as → vs.length = xs.length
  | _, _, _, .nil => rfl
  | _, _, _, .cons _ rs => by rw [List.length_cons, List.length_cons, rs.length]
/-- a tuple: shared where all its parts are -/
def tupE (g : AS) : ES := fun ρ K E => g ρ (fun xs ρ' => xs.length ≤ 1000 ∧ match allV xs with
  | some ds => K (.v (.tup ds)) ρ'
  | none => (match allM xs with
    | some ss => K (.m (.t ss)) ρ'
    | none => False)) E
/-- a list: its items shared -/
def lstE (g : AS) : ES := fun ρ K E => g ρ (fun xs ρ' => xs.length ≤ 1000 ∧ match allV xs with
  | some ds => K (.m (.l ds)) ρ'
  | none => False) E
section
variable {X : Cx} {c : Fr} {W : WX} {p p1 p2 : Bool} {es : List Expr} {g : AS} {pos : Pos} {σ : L2.St} {M M' : Addr → Prop} {T T' as : List Addr} {H H' : Hp} {ρ' : Rho}
theorem le1000 {n : Nat} (h : n ≤ 1000) : n ≤ sizeLine := Nat.le_trans h (by decide)
/-- the same, its temporaries in another order -/
theorem Post.perm {bs : List Addr} (q : Post c p σ M T H M' (as ++ T) H' ρ') (h : ∀ a, a ∈ bs ↔ a ∈ as) (n : as.Nodup → bs.Nodup) : Post c p σ M T H M' (bs ++ T) H' ρ' := by
  obtain ⟨Ms, r, nd, al⟩ := q.sr.slots
  refine ⟨⟨⟨Ms, r, ?_, fun a ha => al a ?_⟩, q.sr.ty, q.sr.src, q.sr.keep, q.sr.pin, q.sr.ln⟩, q.keep, q.new, q.pu⟩
  · obtain ⟨n1, n2, n3⟩ := List.nodup_append.mp nd
    obtain ⟨m1, m2, m3⟩ := List.nodup_append.mp n2
    refine List.nodup_append.mpr ⟨n1, List.nodup_append.mpr ⟨n m1, m2, fun a ha b hb => m3 a ((h a).mp ha) b hb⟩, fun a ha b hb => n3 a ha b ?_⟩
    rcases List.mem_append.mp hb with hb | hb
    · exact List.mem_append_left _ ((h b).mp hb)
    · exact List.mem_append_right _ hb
  · rcases List.mem_append.mp ha with ha | ha
    · exact List.mem_append_left _ ha
    · rcases List.mem_append.mp ha with ha | ha
      · exact List.mem_append_right _ (List.mem_append_left _ ((h a).mp ha))
      · exact List.mem_append_right _ (List.mem_append_right _ ha)
theorem Post.nd (q : Post c p σ M T H M' (as ++ T) H' ρ') : as.Nodup := by
  obtain ⟨Ms, r, nd, al⟩ := q.sr.slots
  exact (List.nodup_append.mp (List.nodup_append.mp nd).2.1).1
/-- a new list or instance that is owned from here on by a value on its way -/
theorem Post.own {a : Addr} {o : HO} (q : Post c p σ M T H M' T' H' ρ') (hn : H' a = none) (hy : Typed (upd H' a o) a) : Post c p σ M T H (fun b => M' b ∨ b = a) (a :: T') (upd H' a o) ρ' := by
  have x : Ext H' (upd H' a o) := Ext.new hn
  have q' := q.ext x
  obtain ⟨Ms, r, nd, al⟩ := q'.sr.slots
  have hm : ¬ M' a := fun z => (q.sr.ty a z).ne hn
  have hH0 : a ∈ c.io ∨ c.H0 a = none := by
    by_cases z : a ∈ c.io
    · exact .inl z
    · refine .inr ?_
      cases e : c.H0 a with
      | none => rfl
      | some u => rw [q.sr.keep a u e z] at hn; cases hn
  obtain ⟨Ms0, r0, nd0, al0⟩ := q.sr.slots
  have mv : Moved (fun _ => False) M' (fun b => M' b ∨ b = a) H' (upd H' a o) := ⟨fun b u e _ => x b u e, fun _ h => h.elim, fun _ h => h.elim, fun b h => h.imp id fun z => by rw [z]; exact hn⟩
  refine ⟨⟨⟨Ms0, r0.moved mv (fun _ _ z => z), ?_, fun b hb => ?_⟩, fun b hb => ?_, fun b hb => ?_, q'.sr.keep, q'.sr.pin, q'.sr.ln⟩, q'.keep, fun b hb => ?_, q'.pu⟩
  · obtain ⟨n1, n2, n3⟩ := List.nodup_append.mp nd0
    refine List.nodup_append.mpr ⟨n1, List.nodup_cons.mpr ⟨fun z => hm (al0 a (List.mem_append_right _ z)), n2⟩, fun b hb d hd e => ?_⟩
    rcases List.mem_cons.mp hd with z | z
    · exact hm (z ▸ e ▸ al0 b (List.mem_append_left _ hb))
    · exact n3 b hb d z e
  · rcases List.mem_append.mp hb with z | z
    · exact .inl (al0 b (List.mem_append_left _ z))
    · rcases List.mem_cons.mp z with z | z
      · exact .inr z
      · exact .inl (al0 b (List.mem_append_right _ z))
  · rcases hb with z | z
    · exact q'.sr.ty b z
    · rw [z]; exact hy
  · rcases hb with z | z
    · exact q.sr.src b z
    · rw [z]; exact hH0
  · rcases hb with z | z
    · exact q.new b z
    · rw [z]
      by_cases hma : M a
      · exact .inl hma
      · refine .inr ?_
        cases e : H a with
        | none => rfl
        | some u => rw [q.keep a u e fun y => absurd y hma] at hn; cases hn
/-- what owns nothing and stood stands, whatever new is owned -/
theorem Post.own_mv {a : Addr} {o : HO} (hn : H' a = none) : Moved (fun _ => False) M' (fun b => M' b ∨ b = a) H' (upd H' a o) :=
  ⟨fun b u e _ => Ext.new hn b u e, fun _ h => h.elim, fun _ h => h.elim, fun b h => h.imp id fun z => by rw [z]; exact hn⟩
theorem ej_tup {x1} (h : AJ X c W p es g) (hK : X.K = c.g.K) : EJ X c W p (.Tuple es x1 pos) (tupE g) := by
  refine ⟨fun ρ K K' E E' hk he q => h.mono _ _ _ _ _ (fun xs ρ' k => ⟨k.1, ?_⟩) he q, PE.imp (L2.pe_tup h.run) ?_⟩
  · have k2 := k.2
    split at k2
    · exact hk _ _ k2
    · split at k2
      · exact hk _ _ k2
      · exact k2
  · rintro σ H Q ⟨ρ, M, T, s, k⟩
    refine ⟨ρ, M, T, s, h.mono _ _ _ _ _ (fun xs ρ' k vs H' M' as q r => ⟨by rw [r.length]; exact le1000 k.1, fun pa hp => ?_⟩) (fun _ _ h => h) k⟩
    have k2 := k.2
    have x : Ext H' (upd H' pa (.tup vs)) := Ext.new hp
    split at k2
    · rename_i ds e
      obtain ⟨r', ea⟩ := r.allV e
      subst ea
      exact k2 _ _ M' [] (q.ext x) (.v (.tup (.inl (.inl L2.upd_same)) (r'.ext x)))
    · split at k2
      · rename_i ss e
        obtain ⟨bs, r', hb, nb⟩ := r.allM e
        exact k2 _ _ M' bs ((q.perm hb nb).ext x) (.m (.t (.inl (.inl L2.upd_same)) (r'.ext x)))
      · exact k2.elim
theorem ej_lst (h : AJ X c W p es g) : EJ X c W p (.List es pos) (lstE g) := by
  refine ⟨fun ρ K K' E E' hk he q => h.mono _ _ _ _ _ (fun xs ρ' k => ⟨k.1, ?_⟩) he q, PE.imp (L2.pe_lst h.run) ?_⟩
  · have k2 := k.2
    split at k2
    · exact hk _ _ k2
    · exact k2
  · rintro σ H Q ⟨ρ, M, T, s, k⟩
    refine ⟨ρ, M, T, s, h.mono _ _ _ _ _ (fun xs ρ' k vs H' M' as q r => ⟨by rw [r.length]; exact le1000 k.1, fun pa hp => ?_⟩) (fun _ _ h => h) k⟩
    have k2 := k.2
    split at k2
    · rename_i ds e
      obtain ⟨r', ea⟩ := r.allV e
      subst ea
      exact k2 _ _ _ [pa] (q.own hp (.inl ⟨_, L2.upd_same⟩)) (.m (.l L2.upd_same (r'.moved (Post.own_mv hp))))
    · exact k2.elim
end
end VS
set_option Elab.async false
set_option linter.all false
set_option maxRecDepth 100000
set_option maxHeartbeats 4000000
/-! VS4: operators, comparisons, subscripts. Own work. -/
namespace VS
open PySem PySem.Spec PyProof.Rows
open L2 (V Hp HO upd SqL SqT Rd Cx TE TT TA TS VK XK WX PE PT PA PS PSs OpR RelV)
/-- a list, however it is held -/
def asL : EV → Option (List D)
  | .v (.lst _ ds) => some ds
  | .b ds => some ds
  | .m (.l ds) => some ds
  | _ => none
/-- a tuple of shared data -/
def asT : EV → Option (List D)
  | .v (.tup ds) => some ds
  | _ => none
section
variable {X : Cx} {c : Fr} {W : WX} {p p1 p2 : Bool} {M M' M2 : Addr → Prop} {T T' as as1 as2 : List Addr} {σ : L2.St} {H H' H2 : Hp} {ρ ρ' ρ2 : Rho}
theorem VR.list {v : V} {x : EV} {ds : List D} (r : VR c M H v x as) (e : asL x = some ds) : ∃ a vs, v = .ref a ∧ SqL c.g.K H a vs ∧ Reps c.g c.Z M H vs ds := by
  cases r with
  | v r =>
    cases r with
    | lst l r => cases e; exact ⟨_, _, rfl, l.sq, r⟩
    | _ => cases e
  | b l r => cases e; exact ⟨_, _, rfl, .inl (.inl l), r⟩
  | m r =>
    cases r with
    | l h r => cases e; exact ⟨_, _, rfl, .inl (.inl h), r⟩
    | _ => cases e
theorem VR.tuple {v : V} {x : EV} {ds : List D} (r : VR c M H v x as) (e : asT x = some ds) : ∃ a vs, v = .ref a ∧ SqT c.g.K H a vs ∧ Reps c.g c.Z M H vs ds := by
  cases r with
  | v r =>
    cases r with
    | tup l r => cases e; exact ⟨_, _, rfl, l, r⟩
    | _ => cases e
  | _ => cases e
theorem VR.int {v : V} {i : Int} (r : VR c M H v (.v (.int i)) as) : v = .int i := by
  cases r with
  | v r => cases r; rfl
theorem VR.str {v : V} {i : Str} (r : VR c M H v (.v (.str i)) as) : v = .str i := by
  cases r with
  | v r => cases r; rfl
theorem VR.bl {v : V} {i : Bool} (r : VR c M H v (.v (.bl i)) as) : v = .bl i := by
  cases r with
  | v r => cases r; rfl
abbrev BR := EV → EV → (EV → Rho → Prop) → (Exc → Rho → Prop) → Rho → Prop
def MonoR (R : BR) : Prop := ∀ x y ρ K K' E E', (∀ x ρ', K x ρ' → K' x ρ') → (∀ x ρ', E x ρ' → E' x ρ') → R x y K E ρ → R x y K' E' ρ
/-- the reading r does what R says -/
def Says (c : Fr) (r : L2.R2) (R : BR) : Prop := ∀ (p : Bool) σ M T H M2 H2 ρ2 as1 as2 v u x y Q E, Post c p σ M T H M2 (as2 ++ (as1 ++ T)) H2 ρ2 → VR c M2 H2 v x as1 → VR c M2 H2 u y as2 →
      R x y (fun ev ρ' => ∀ v H' M' as, Post c p σ M T H M' (as ++ T) H' ρ' → VR c M' H' v ev as → Q v H') E ρ2 → r v u H2 Q
theorem ej_op {op : Operator} {a b : Expr} {f g : ES} {r : L2.R2} {R : BR} {pos : Pos} (ho : OpR X (binaryOp op) r) (hM : MonoR R) (hR : Says c r R) (ha : EJ X c W p1 a f) (hb : EJ X c W p2 b g) :
    EJ X c W (p1 && p2) (.BinOp a op b pos) (bin p2 f g R) :=
  ej_bin ha hb (fun h1 h2 => L2.pe_op ho h1 h2) hM fun σ M T H M2 H2 ρ2 as1 as2 v u x y Q E => hR (p1 && p2) σ M T H M2 H2 ρ2 as1 as2 v u x y Q E
theorem ej_cmp {op : CmpOp} {a b : Expr} {f g : ES} {r : L2.R2} {R : BR} {pos : Pos} (ho : OpR X (compareOp op) r) (hM : MonoR R) (hR : Says c r R) (hm : behindInMarks op b = false) (ha : EJ X c W p1 a f) (hb : EJ X c W p2 b g) :
    EJ X c W (p1 && p2) (.Compare a [op] [b] pos) (bin p2 f g R) :=
  ej_bin ha hb (fun h1 h2 => L2.pe_cmpR ho h1 h2 hm) hM fun σ M T H M2 H2 ρ2 as1 as2 v u x y Q E => hR (p1 && p2) σ M T H M2 H2 ρ2 as1 as2 v u x y Q E
theorem tj_cmp {op : CmpOp} {a b : Expr} {f g : ES} {r : L2.R2} {R : BR} {pos : Pos} (ho : OpR X (compareOp op) r) (hM : MonoR R) (hR : Says c r R) (hm : behindInMarks op b = false) (ha : EJ X c W p1 a f) (hb : EJ X c W p2 b g) :
    TJ X c W (p1 && p2) (.Compare a [op] [b] pos) (bT (bin p2 f g R)) := by
  have h := ej_cmp (W := W) (pos := pos) ho hM hR hm ha hb
  refine ⟨MonoB.bT h.mono, PT.imp (L2.pt_cmpR ho ha.run hb.run hm) fun σ H Q q => ?_⟩
  exact seq2 ha.mono hb.mono (fun σ M T H M2 H2 ρ2 as1 as2 v u x y Q E => hR (p1 && p2) σ M T H M2 H2 ρ2 as1 as2 v u x y Q E) σ H _ (bT_run h.mono σ H Q q)
/-! ints -/
def intR (C : Int → Int → Prop) (d : Int → Int → D) : BR := fun x y K _ ρ => match x, y with
  | .v (.int i), .v (.int j) => C i j ∧ K (.v (d i j)) ρ
  | _, _ => False
theorem intR_mono {C : Int → Int → Prop} {d : Int → Int → D} : MonoR (intR C d) := fun x y ρ K K' E E' hk _ h => by
  unfold intR at h ⊢
  split at h
  · exact ⟨h.1, hk _ _ h.2⟩
  · exact h
theorem intR_says {C C' : Int → Int → Prop} {d : Int → Int → D} {g : Int → Int → V} (hC : ∀ i j, C i j → C' i j) (hd : ∀ (M : Addr → Prop) (H : Hp) i j, Rep c.g c.Z M H (g i j) (d i j)) : Says c (L2.rI C' g) (intR C d) := by
  intro p σ M T H M2 H2 ρ2 as1 as2 v u x y Q E q r1 r2 h
  unfold intR at h
  split at h
  · exact ⟨_, _, r1.int, r2.int, hC _ _ h.1, h.2 _ H2 M2 [] q.drop.drop (.v (hd _ _ _ _))⟩
  · exact h.elim
theorem intR_says0 {d : Int → Int → D} {g : Int → Int → V} (hd : ∀ (M : Addr → Prop) (H : Hp) i j, Rep c.g c.Z M H (g i j) (d i j)) : Says c (L2.rI0 g) (intR (fun _ _ => True) d) := by
  intro p σ M T H M2 H2 ρ2 as1 as2 v u x y Q E q r1 r2 h
  unfold intR at h
  split at h
  · exact ⟨_, _, r1.int, r2.int, h.2 _ H2 M2 [] q.drop.drop (.v (hd _ _ _ _))⟩
  · exact h.elim
/-- a product whose size is in bounds -/
def MulOk (i j : Int) : Prop := i.natAbs.log2 + j.natAbs.log2 < 130000000
theorem MulOk.ok {i j : Int} (h : MulOk i j) : IntMulOk i j := by
  have b : ∀ x : Int, Builtin.Int.intBits x ≤ x.natAbs.log2 + 1 := fun x => by
    unfold Builtin.Int.intBits
    split <;> omega
  have h1 := b i
  have h2 := b j
  have h3 : i.natAbs.log2 + j.natAbs.log2 < 130000000 := h
  have e : bitsLine = 134217728 := by decide
  unfold IntMulOk
  intro z
  rw [Bool.and_eq_true] at z
  have z2 := z.2
  unfold Builtin.Int.intTooBig at z2
  have z3 := of_decide_eq_true z2
  rw [e] at z3
  omega
theorem op_mulV : OpR X (binaryOp .Mult) (L2.rI MulOk fun i j => .int (i * j)) := L2.opI fun _ _ _ _ _ _ _ hc q => mul_int q hc.ok
/-! `//` of any size: CPython divides great numbers by a module of its own; what that asks -/
/-- nobody has touched what such a division looks at -/
structure PyK (P : Program) (K : PySem.W.Frag) (mg : Str → Option Value) : Prop where
  tree : P.given.tree = none
  st : ∀ h : Heap, K.In h → ∃ mc, h.Ns cStatics mc ∧ mc "sys.audit-hooks" = none ∧ mc "sys.dict" = none
  mo : ∀ h : Heap, K.In h → ∃ mm, h.Ns sysModules mm ∧ mm "_pylong" = none
  mn : ∃ bm ob, mg "__builtins__" = some (.ref bm) ∧ K.lookup bm = some ob ∧ ob.cls = .type "module" ∧ ob.dict = some builtinsNs
/-- .. here, with room for its frames -/
structure PyA (P : Program) (K : PySem.W.Frag) (mg : Str → Option Value) (A : Around) (st : List Env) : Prop where
  k : PyK P K mg
  d : A.depth + Builtin.pylongFrames < recursionLimit
  s : ∃ env l, st = env :: l ∧ env.scope.isGenerator = false ∧ env.scope.isCoroutine = false ∧ env.builtins = builtinsNs ∧ env.globals = mainGlobals
abbrev PyX (X : Cx) : Prop := PyA X.prog X.K X.mg X.A X.stack
theorem PyA.room {pins : List (Addr × Obj)} {s : Shared} (p : PyX X) (I : L2.Inv X pins σ H s) : PylongRoom (model X.prog X.w) X.A s := by
  obtain ⟨env, l, e, g1, g2, g3, g4⟩ := p.s
  obtain ⟨bm, ob, b1, b2, b3, b4⟩ := p.k.mn
  obtain ⟨mb, nb, hb⟩ := I.ok.mod.blt
  have hN : s.heap.NoSeer := ⟨p.k.st _ I.kIn, p.k.mo _ I.kIn, ⟨mb, nb.keepsP I.bk, hb⟩, ⟨X.mg, bm, ob, I.ok.mod.glob.keepsP I.bk, b1, I.kIn _ _ b2, b3, b4⟩⟩
  exact PylongRoom.of I.nolimit p.d (SeerAt.of (env := env) (l := l) hN p.k.tree (by rw [I.ok.frames, e]) g1 g2 g3 g4)
/-- a divisor -/
def DivOk (_ j : Int) : Prop := j ≠ 0
theorem op_fdivV (hP : PyX X) : OpR X (binaryOp .FloorDiv) (L2.rI DivOk fun i j => .int (i.fdiv j)) := by
  intro pins s σ H x y v u Q I rx ry h
  obtain ⟨i, j, rfl, rfl, hc, q⟩ := h
  obtain ⟨t, rfl⟩ := rx
  obtain ⟨t', rfl⟩ := ry
  exact floordiv_int hc ⟨.int (i.fdiv j), H, I.tok _, ⟨_, rfl⟩, q⟩ (.inr (PyA.room hP I))
/-! + of ints, texts, tuples, lists -/
theorem op_catL : OpR X (binaryOp .Add) (fun x y H Q => ∃ l b xs zs, x = .ref l ∧ y = .ref b ∧ SqL X.K H l xs ∧ SqL X.K H b zs ∧ xs.length + zs.length ≤ sizeLine ∧ ∀ p, H p = none → Q (.ref p) (upd H p (.lst (xs ++ zs)))) := by
  intro pins s σ H x y v u Q I rx ry h
  obtain ⟨l, b, xs, zs, rfl, rfl, hH, hB, hz, q⟩ := h
  cases rx
  cases ry
  obtain ⟨its, r, pl, _⟩ := I.list hH
  obtain ⟨its2, r2, pl2, _⟩ := I.list hB
  have hsz : its.toArray.size + its2.toArray.size ≤ sizeLine := by rw [List.size_toArray, List.size_toArray, ← r.length, ← r2.length]; exact hz
  obtain ⟨⟨cls, dd, data, sl⟩, ho, hc, n, hd⟩ := pl.isList
  obtain ⟨⟨cls2, dd2, data2, sl2⟩, ho2, hc2, n2, hd2⟩ := pl2.isList
  simp only at hc hd hc2 hd2
  subst hc hd hc2 hd2
  have e : its.toArray ++ its2.toArray = (its ++ its2).toArray := by simp
  refine concat_meets ⟨_, ho, rfl⟩ ⟨_, ho2, rfl⟩ noFill_list_add seq_list_add PySem.F.slot_list_add PySem.F.entry_list_add (PySem.F.args_list_add_2 _ _) (list_addW l b its.toArray its2.toArray n n2 dd dd2 sl sl2 hsz) ⟨ho, ho2, ?_⟩
  rw [e]
  exact ⟨.ref _, _, I.lnew (t' := s.toks) (r.append r2) (by rw [List.length_append]; exact hz), rfl, q _ I.fresh⟩
def addR : BR := fun x y K _ ρ => match x, y with
  | .v (.int i), .v (.int j) => K (.v (.int (i + j))) ρ
  | .v (.str a), .v (.str b) => a.length + b.length ≤ sizeLine ∧ K (.v (.str (a ++ b))) ρ
  | .v (.tup a), .v (.tup b) => (a ≠ [] ∧ b ≠ [] ∧ a.length + b.length ≤ 100000) ∧ K (.v (.tup (a ++ b))) ρ
  | x, y => match asL x, asL y with
    | some a, some b => a.length + b.length ≤ 1000000 ∧ K (.m (.l (a ++ b))) ρ
    | _, _ => False
theorem addR_mono : MonoR addR := fun x y ρ K K' E E' hk _ h => by
  unfold addR at h ⊢
  split at h
  · exact hk _ _ h
  · exact ⟨h.1, hk _ _ h.2⟩
  · exact ⟨h.1, hk _ _ h.2⟩
  · split at h
    · exact ⟨h.1, hk _ _ h.2⟩
    · exact h
abbrev rAdd : L2.R2 := fun x y H Q => L2.rI0 (fun i j => .int (i + j)) x y H Q ∨ (∃ i j, x = .str i ∧ y = .str j ∧ i.length + j.length ≤ sizeLine ∧ Q (.str (i ++ j)) H) ∨ L2.rCatT X.K x y H Q ∨
  ∃ l b xs zs, x = .ref l ∧ y = .ref b ∧ SqL X.K H l xs ∧ SqL X.K H b zs ∧ xs.length + zs.length ≤ sizeLine ∧ ∀ p, H p = none → Q (.ref p) (upd H p (.lst (xs ++ zs)))
theorem op_addV : OpR X (binaryOp .Add) (rAdd (X := X)) := L2.op_add.or (L2.op_add_str.or (L2.op_catT.or op_catL))
theorem le_line {n k : Nat} (h : n ≤ k) (hk : k ≤ 1000000) : n ≤ sizeLine := Nat.le_trans h (Nat.le_trans hk (by decide))
theorem addR_says (hK : X.K = c.g.K) : Says c (rAdd (X := X)) addR := by
  intro p σ M T H M2 H2 ρ2 as1 as2 v u x y Q E q r1 r2 h
  unfold addR at h
  split at h
  · exact .inl ⟨_, _, r1.int, r2.int, h _ H2 M2 [] q.drop.drop (.v (.int _))⟩
  · exact .inr (.inl ⟨_, _, r1.str, r2.str, h.1, h.2 _ H2 M2 [] q.drop.drop (.v (.str _))⟩)
  · rename_i a b
    obtain ⟨l1, vs1, e1, t1, q1⟩ := r1.tuple rfl
    obtain ⟨l2, vs2, e2, t2, q2⟩ := r2.tuple rfl
    obtain ⟨⟨n1, n2, n3⟩, k⟩ := h
    have z1 : vs1 ≠ [] := fun z => n1 (by have := q1.length; rw [z] at this; exact List.length_eq_zero_iff.mp this.symm)
    have z2 : vs2 ≠ [] := fun z => n2 (by have := q2.length; rw [z] at this; exact List.length_eq_zero_iff.mp this.symm)
    refine .inr (.inr (.inl ⟨l1, l2, vs1, vs2, e1, e2, hK ▸ t1, hK ▸ t2, z1, by rw [q1.length, q2.length]; exact le_line n3 (by decide), fun z => absurd z z2, fun _ pa hp => ?_⟩))
    exact k _ _ M2 [] (q.drop.drop.ext (Ext.new hp)) (.v (.tup (.inl (.inl L2.upd_same)) ((q1.append q2).ext (Ext.new hp))))
  · split at h
    · rename_i a b ea eb
      obtain ⟨l1, vs1, e1, t1, q1⟩ := r1.list ea
      obtain ⟨l2, vs2, e2, t2, q2⟩ := r2.list eb
      refine .inr (.inr (.inr ⟨l1, l2, vs1, vs2, e1, e2, hK ▸ t1, hK ▸ t2, by rw [q1.length, q2.length]; exact le_line h.1 (by decide), fun pa hp => ?_⟩))
      exact h.2 _ _ _ [pa] (q.drop.drop.own hp (.inl ⟨_, L2.upd_same⟩)) (.m (.l L2.upd_same ((q1.append q2).moved (Post.own_mv hp))))
    · exact h.elim
theorem ej_add {a b : Expr} {f g : ES} {pos : Pos} (hK : X.K = c.g.K) (ha : EJ X c W p1 a f) (hb : EJ X c W p2 b g) : EJ X c W (p1 && p2) (.BinOp a .Add b pos) (bin p2 f g addR) := ej_op op_addV addR_mono (addR_says hK) ha hb
theorem ej_sub {a b : Expr} {f g : ES} {pos : Pos} (ha : EJ X c W p1 a f) (hb : EJ X c W p2 b g) : EJ X c W (p1 && p2) (.BinOp a .Sub b pos) (bin p2 f g (intR (fun _ _ => True) fun i j => .int (i - j))) :=
  ej_op L2.op_sub intR_mono (intR_says0 fun _ _ _ _ => .int _) ha hb
theorem ej_mul {a b : Expr} {f g : ES} {pos : Pos} (ha : EJ X c W p1 a f) (hb : EJ X c W p2 b g) : EJ X c W (p1 && p2) (.BinOp a .Mult b pos) (bin p2 f g (intR MulOk fun i j => .int (i * j))) :=
  ej_op op_mulV intR_mono (intR_says (fun _ _ h => h) fun _ _ _ _ => .int _) ha hb
theorem ej_fdiv {a b : Expr} {f g : ES} {pos : Pos} (hP : PyX X) (ha : EJ X c W p1 a f) (hb : EJ X c W p2 b g) : EJ X c W (p1 && p2) (.BinOp a .FloorDiv b pos) (bin p2 f g (intR DivOk fun i j => .int (i.fdiv j))) :=
  ej_op (op_fdivV hP) intR_mono (intR_says (fun _ _ h => h) fun _ _ _ _ => .int _) ha hb
theorem ej_mod {a b : Expr} {f g : ES} {pos : Pos} (ha : EJ X c W p1 a f) (hb : EJ X c W p2 b g) : EJ X c W (p1 && p2) (.BinOp a .Mod b pos) (bin p2 f g (intR (fun _ j => j ≠ 0) fun i j => .int (i.fmod j))) :=
  ej_op L2.op_modN intR_mono (intR_says (fun _ _ h => h) fun _ _ _ _ => .int _) ha hb
/-! order of ints -/
abbrev ltR : BR := intR (fun _ _ => True) fun i j => .bl (decide (i < j))
abbrev gtR : BR := intR (fun _ _ => True) fun i j => .bl (decide (j < i))
theorem ltR_says : Says c (L2.rI0 fun i j => .bl (decide (i < j))) ltR := intR_says0 fun _ _ _ _ => .bl _
theorem gtR_says : Says c (L2.rI0 fun i j => .bl (decide (j < i))) gtR := intR_says0 fun _ _ _ _ => .bl _
section
variable {a b : Expr} {f g : ES} {pos : Pos}
theorem ej_lt (ha : EJ X c W p1 a f) (hb : EJ X c W p2 b g) : EJ X c W (p1 && p2) (.Compare a [.Lt] [b] pos) (bin p2 f g ltR) := ej_cmp L2.op_lt intR_mono ltR_says (L2.nomark _) ha hb
theorem tj_lt (ha : EJ X c W p1 a f) (hb : EJ X c W p2 b g) : TJ X c W (p1 && p2) (.Compare a [.Lt] [b] pos) (bT (bin p2 f g ltR)) := tj_cmp L2.op_lt intR_mono ltR_says (L2.nomark _) ha hb
theorem tj_gt (ha : EJ X c W p1 a f) (hb : EJ X c W p2 b g) : TJ X c W (p1 && p2) (.Compare a [.Gt] [b] pos) (bT (bin p2 f g gtR)) := tj_cmp L2.op_gt intR_mono gtR_says (L2.nomark _) ha hb
end
end
/-! equality of data -/
mutual
def py : D → PyData
  | .non => .none
  | .bl b => .bool b
  | .int i => .int i
  | .str s => .str s
  | .tup ds => .tuple (pys ds)
  | .lst _ ds => .list (pys ds)
  | .ty _ => .none
  | .fn _ => .none
  | .dct _ _ => .none
def pys : List D → List PyData
  | [] => []
  | d :: ds => py d :: pys ds
end
mutual
def eqD : D → D → Bool
  | .non, .non => true
  | .bl a, .bl b => a == b
  | .bl a, .int j => (if a then 1 else 0) == j
  | .int i, .bl b => i == (if b then 1 else 0)
  | .int i, .int j => i == j
  | .str x, .str y => x == y
  | .tup xs, .tup ys => eqDs xs ys
  | .lst _ xs, .lst _ ys => eqDs xs ys
  | _, _ => false
def eqDs : List D → List D → Bool
  | [], [] => true
  | x :: xs, y :: ys => eqD x y && eqDs xs ys
  | _, _ => false
end
mutual
def depD : D → Nat
  | .tup ds => depDs ds + 1
  | .lst _ ds => depDs ds + 1
  | _ => 0
def depDs : List D → Nat
  | [] => 0
  | d :: ds => max (depD d) (depDs ds)
end
mutual
def cmpD : D → Bool
  | .tup ds => cmpDs ds
  | .lst _ ds => cmpDs ds
  | .ty _ => false
  | .fn _ => false
  | .dct _ _ => false
  | _ => true
def cmpDs : List D → Bool
  | [] => true
  | d :: ds => cmpD d && cmpDs ds
end
mutual
theorem py_plain : ∀ d : D, (py d).plain = true
  | .non => rfl
  | .bl _ => rfl
  | .int _ => rfl
  | .str _ => rfl
  | .tup ds => by rw [py, PyData.plain]; exact pys_plain ds
  | .lst _ ds => by rw [py, PyData.plain]; exact pys_plain ds
  | .ty _ => rfl
  | .fn _ => rfl
  | .dct _ _ => rfl
theorem pys_plain : ∀ ds : List D, PyData.plainAll (pys ds) = true
  | [] => rfl
  | d :: ds => by rw [pys, PyData.plainAll, py_plain d, pys_plain ds]; rfl
end
mutual
theorem py_depth : ∀ d : D, (py d).depth = depD d
  | .non => rfl
  | .bl _ => rfl
  | .int _ => rfl
  | .str _ => rfl
  | .tup ds => by rw [py, PyData.depth, depD, pys_depth ds]
  | .lst _ ds => by rw [py, PyData.depth, depD, pys_depth ds]
  | .ty _ => rfl
  | .fn _ => rfl
  | .dct _ _ => rfl
theorem pys_depth : ∀ ds : List D, PyData.depthAll (pys ds) = depDs ds
  | [] => rfl
  | d :: ds => by rw [pys, PyData.depthAll, depDs, py_depth d, pys_depth ds]
end
mutual
theorem py_eqv : ∀ a b : D, cmpD a = true → cmpD b = true → PyData.eqv (py a) (py b) = eqD a b
  | .tup xs, .tup ys, ha, hb => by
    rw [cmpD] at ha hb
    rw [py, py, PyData.eqv, eqD]; exact pys_eqv xs ys ha hb
  | .lst _ xs, .lst _ ys, ha, hb => by
    rw [cmpD] at ha hb
    rw [py, py, PyData.eqv, eqD]; exact pys_eqv xs ys ha hb
  | .non, b, _, hb => by cases b <;> first | rfl | exact absurd hb (by simp [cmpD])
  | .bl _, b, _, hb => by cases b <;> first | rfl | exact absurd hb (by simp [cmpD])
  | .int _, b, _, hb => by cases b <;> first | rfl | exact absurd hb (by simp [cmpD])
  | .str _, b, _, hb => by cases b <;> first | rfl | exact absurd hb (by simp [cmpD])
  | .tup _, .non, _, _ => rfl
  | .tup _, .bl _, _, _ => rfl
  | .tup _, .int _, _, _ => rfl
  | .tup _, .str _, _, _ => rfl
  | .tup _, .lst _ _, _, _ => rfl
  | .lst _ _, .non, _, _ => rfl
  | .lst _ _, .bl _, _, _ => rfl
  | .lst _ _, .int _, _, _ => rfl
  | .lst _ _, .str _, _, _ => rfl
  | .lst _ _, .tup _, _, _ => rfl
  | .tup _, .ty _, _, hb => absurd hb (by simp [cmpD])
  | .tup _, .fn _, _, hb => absurd hb (by simp [cmpD])
  | .tup _, .dct _ _, _, hb => absurd hb (by simp [cmpD])
  | .lst _ _, .ty _, _, hb => absurd hb (by simp [cmpD])
  | .lst _ _, .fn _, _, hb => absurd hb (by simp [cmpD])
  | .lst _ _, .dct _ _, _, hb => absurd hb (by simp [cmpD])
  | .ty _, _, ha, _ => absurd ha (by simp [cmpD])
  | .fn _, _, ha, _ => absurd ha (by simp [cmpD])
  | .dct _ _, _, ha, _ => absurd ha (by simp [cmpD])
theorem pys_eqv : ∀ xs ys : List D, cmpDs xs = true → cmpDs ys = true → PyData.eqvAll (pys xs) (pys ys) = eqDs xs ys
  | [], [], _, _ => rfl
  | [], _ :: _, _, _ => rfl
  | _ :: _, [], _, _ => rfl
  | x :: xs, y :: ys, ha, hb => by
    rw [cmpDs, Bool.and_eq_true] at ha hb
    rw [pys, pys, PyData.eqvAll, eqDs, py_eqv x y ha.1 hb.1, pys_eqv xs ys ha.2 hb.2]
end
section
variable {g : Ge} {Z M : Addr → Prop} {H : Hp}
mutual
theorem Rep.dp : ∀ {v : V} {d : D}, Rep g Z M H v d → cmpD d = true → L2.Dp g.K H v (py d)
  | _, _, .non, _ => .non
  | _, _, .bl b, _ => .bl b
  | _, _, .int i, _ => .int i
  | _, _, .str s, _ => .str s
  | _, _, .ty _, k => absurd k (by simp [cmpD])
  | _, _, .fn _, k => absurd k (by simp [cmpD])
  | _, _, .tup h r, k => .tup h (r.dp (by simpa [cmpD] using k))
  | _, _, .lst h r, k => .lst h.sq (r.dp (by simpa [cmpD] using k))
  | _, _, .dct _ _ _ _, k => absurd k (by simp [cmpD])
theorem Reps.dp : ∀ {vs : List V} {ds : List D}, Reps g Z M H vs ds → cmpDs ds = true → L2.DpAll g.K H vs (pys ds)
  | _, _, .nil, _ => .nil
  | _, d :: ds, .cons r rs, k => by
    have k' : cmpD d = true ∧ cmpDs ds = true := by simpa [cmpDs] using k
    exact .cons (r.dp k'.1) (rs.dp k'.2)
end
mutual
theorem RepO.dp : ∀ {v : V} {s : Sl} {as : List Addr} {d : D}, RepO g Z M H v s as → frSl s = some d → cmpD d = true → L2.Dp g.K H v (py d)
  | _, _, _, _, .v r, e, k => by
    rw [frSl] at e; cases e; exact r.dp k
  | _, _, _, _, .l h r, e, k => by
    rw [frSl] at e; cases e; exact .lst (.inl (.inl h)) (r.dp (by simpa [cmpD] using k))
  | _, .t ss, _, _, .t h r, e, k => by
    rw [frSl] at e
    cases q : frSls ss with
    | none => rw [q] at e; cases e
    | some ds => rw [q] at e; cases e; exact .tup h (r.dp q (by simpa [cmpD] using k))
  | _, _, _, _, .o _ _ _ _ _, e, _ => by rw [frSl] at e; cases e
  | _, _, _, _, .dt _ _ _ _, e, _ => by rw [frSl] at e; cases e
  | _, .ll ss, _, _, .ll h r, e, k => by
    rw [frSl] at e
    cases q : frSls ss with
    | none => rw [q] at e; cases e
    | some ds => rw [q] at e; cases e; exact .lst (.inl (.inl h)) (r.dp q (by simpa [cmpD] using k))
theorem RepOs.dp : ∀ {vs : List V} {ss : List Sl} {as : List Addr} {ds : List D}, RepOs g Z M H vs ss as → frSls ss = some ds → cmpDs ds = true → L2.DpAll g.K H vs (pys ds)
  | _, _, _, _, .nil, e, _ => by rw [frSls] at e; cases e; exact .nil
  | _, s :: ss, _, _, .cons r rs, e, k => by
    rw [frSls] at e
    cases q : frSl s with
    | none => rw [q] at e; cases e
    | some d =>
      cases q2 : frSls ss with
      | none => rw [q, q2] at e; cases e
      | some ds =>
        rw [q, q2] at e; cases e
        have k' : cmpD d = true ∧ cmpDs ds = true := by simpa [cmpDs] using k
        exact .cons (r.dp q k'.1) (rs.dp q2 k'.2)
end
end
/-- as data, however it is held -/
def asD : EV → Option D
  | .v d => some d
  | .b ds => some (.lst false ds)
  | .m s => frSl s
  | .p _ => none
section
variable {X : Cx} {c : Fr} {W : WX} {p p1 p2 : Bool} {M M' M2 : Addr → Prop} {T T' as as1 as2 : List Addr} {σ : L2.St} {H H' H2 : Hp} {ρ ρ' ρ2 : Rho}
theorem VR.dp {v : V} {x : EV} {d : D} (r : VR c M H v x as) (e : asD x = some d) (k : cmpD d = true) : L2.Dp c.g.K H v (py d) := by
  cases r with
  | v r => cases e; exact r.dp k
  | b l r => cases e; exact .lst (.inl (.inl l)) (r.dp (by simpa [cmpD] using k))
  | m r => exact r.dp e k
def rEqP (K : PySem.W.Frag) (neg : Bool) : L2.R2 := fun x y H Q => ∃ d e, L2.Dp K H x d ∧ L2.Dp K H y e ∧ d.plain = true ∧ e.plain = true ∧ min d.depth e.depth ≤ 100 ∧ Q (.bl (if neg then !PyData.eqv d e else PyData.eqv d e)) H
theorem op_eqP (hu : X.A.units + 128 < cLine) : OpR X (compareOp .Eq) (rEqP X.K false) := by
  intro pins s σ H x y v u Q I rx ry h
  obtain ⟨d, e, hd, he, sd, se, hm, q⟩ := h
  obtain ⟨as, r1⟩ := L2.Dp.reads I d x v hd rx
  obtain ⟨bs, r2⟩ := L2.Dp.reads I e y u he ry
  exact SeqAt.eq_plain r1 r2 sd se (by omega) ⟨.bl _, H, I, rfl, q⟩
theorem op_neP (hu : X.A.units + 128 < cLine) : OpR X (compareOp .NotEq) (rEqP X.K true) := by
  intro pins s σ H x y v u Q I rx ry h
  obtain ⟨d, e, hd, he, sd, se, hm, q⟩ := h
  obtain ⟨as, r1⟩ := L2.Dp.reads I d x v hd rx
  obtain ⟨bs, r2⟩ := L2.Dp.reads I e y u he ry
  exact SeqAt.ne_plain r1 r2 sd se (by omega) ⟨.bl _, H, I, rfl, q⟩
def eqR (neg : Bool) : BR := fun x y K _ ρ => match asD x, asD y with
  | some a, some b => (cmpD a = true ∧ cmpD b = true ∧ min (depD a) (depD b) ≤ 100) ∧ K (.v (.bl (if neg then !eqD a b else eqD a b))) ρ
  | _, _ => False
theorem eqR_mono {neg : Bool} : MonoR (eqR neg) := fun x y ρ K K' E E' hk _ h => by
  unfold eqR at h ⊢
  split at h
  · exact ⟨h.1, hk _ _ h.2⟩
  · exact h
theorem eqR_says {neg : Bool} (hK : X.K = c.g.K) : Says c (rEqP X.K neg) (eqR neg) := by
  intro p σ M T H M2 H2 ρ2 as1 as2 v u x y Q E q r1 r2 h
  unfold eqR at h
  split at h
  · rename_i a b ea eb
    obtain ⟨⟨ca, cb, dp⟩, k⟩ := h
    refine ⟨py a, py b, hK ▸ r1.dp ea ca, hK ▸ r2.dp eb cb, py_plain a, py_plain b, by rw [py_depth, py_depth]; exact dp, ?_⟩
    rw [py_eqv a b ca cb]
    exact k _ H2 M2 [] q.drop.drop (.v (.bl _))
  · exact h.elim
section
variable {a b : Expr} {f g : ES} {pos : Pos}
theorem ej_eq (hK : X.K = c.g.K) (hu : X.A.units + 128 < cLine) (ha : EJ X c W p1 a f) (hb : EJ X c W p2 b g) : EJ X c W (p1 && p2) (.Compare a [.Eq] [b] pos) (bin p2 f g (eqR false)) := ej_cmp (op_eqP hu) eqR_mono (eqR_says hK) (L2.nomark _) ha hb
theorem tj_eq (hK : X.K = c.g.K) (hu : X.A.units + 128 < cLine) (ha : EJ X c W p1 a f) (hb : EJ X c W p2 b g) : TJ X c W (p1 && p2) (.Compare a [.Eq] [b] pos) (bT (bin p2 f g (eqR false))) := tj_cmp (op_eqP hu) eqR_mono (eqR_says hK) (L2.nomark _) ha hb
theorem tj_ne (hK : X.K = c.g.K) (hu : X.A.units + 128 < cLine) (ha : EJ X c W p1 a f) (hb : EJ X c W p2 b g) : TJ X c W (p1 && p2) (.Compare a [.NotEq] [b] pos) (bT (bin p2 f g (eqR true))) := tj_cmp (op_neP hu) eqR_mono (eqR_says hK) (L2.nomark _) ha hb
end
/-! is None -/
def isNon : EV → Bool
  | .v .non => true
  | .m (.v .non) => true
  | _ => false
theorem VR.isNon {v : V} {x : EV} (r : VR c M H v x as) : decide (v = .non) = VS.isNon x := by
  cases r with
  | v r => cases r <;> simp [VS.isNon]
  | b l r => simp [VS.isNon]
  | m r =>
    cases r with
    | v r => cases r <;> simp [VS.isNon]
    | _ => simp [VS.isNon]
end
end VS
set_option Elab.async false
set_option linter.all false
set_option maxRecDepth 100000
set_option maxHeartbeats 4000000
/-! VS5: subscripts, built-in calls, calls of defs. Own work. -/
namespace VS
open PySem PySem.Spec PyProof.Rows
open L2 (V Hp HO upd SqL SqT Rd Cx TE TT TA TS VK XK WX PE PT PA PS PSs OpR RelV CallR Sp FnOk atI)
section
variable {X : Cx} {c : Fr} {W : WX} {p p1 p2 : Bool} {M M' M2 : Addr → Prop} {T T' as as1 as2 : List Addr} {σ : L2.St} {H H' H2 : Hp} {ρ ρ' ρ2 : Rho}
/-! is None -/
def isNR (neg : Bool) : BR := fun x y K _ ρ => match y with
  | .v .non => K (.v (.bl (if neg then !isNon x else isNon x))) ρ
  | _ => False
theorem isNR_mono {neg : Bool} : MonoR (isNR neg) := fun x y ρ K K' E E' hk _ h => by
  unfold isNR at h ⊢
  split at h
  · exact hk _ _ h
  · exact h
theorem VR.nn {v : V} (r : VR c M H v (.v .non) as) : v = .non := by
  cases r with
  | v r => cases r; rfl
theorem isN_says : Says c (fun x y H Q => y = .non ∧ Q (.bl (decide (x = .non))) H) (isNR false) := by
  intro p σ M T H M2 H2 ρ2 as1 as2 v u x y Q E q r1 r2 h
  unfold isNR at h
  split at h
  · refine ⟨r2.nn, ?_⟩
    rw [r1.isNon]
    exact h _ H2 M2 [] q.drop.drop (.v (.bl _))
  · exact h.elim
theorem notN_says : Says c (fun x y H Q => y = .non ∧ Q (.bl (!decide (x = .non))) H) (isNR true) := by
  intro p σ M T H M2 H2 ρ2 as1 as2 v u x y Q E q r1 r2 h
  unfold isNR at h
  split at h
  · refine ⟨r2.nn, ?_⟩
    rw [r1.isNon]
    exact h _ H2 M2 [] q.drop.drop (.v (.bl _))
  · exact h.elim
section
variable {a b : Expr} {f g : ES} {pos : Pos}
theorem tj_is (ha : EJ X c W p1 a f) (hb : EJ X c W p2 b g) : TJ X c W (p1 && p2) (.Compare a [.Is] [b] pos) (bT (bin p2 f g (isNR false))) := tj_cmp L2.op_isN isNR_mono isN_says (L2.nomark _) ha hb
theorem tj_isnot (ha : EJ X c W p1 a f) (hb : EJ X c W p2 b g) : TJ X c W (p1 && p2) (.Compare a [.IsNot] [b] pos) (bT (bin p2 f g (isNR true))) := tj_cmp L2.op_notN isNR_mono notN_says (L2.nomark _) ha hb
end
/-! a op1 b op2 c of ints -/
def chainE (p2 p3 : Bool) (R R' : Int → Int → Bool) (f g h : ES) : ES := fun ρ K E => f ρ (fun x ρ1 => g ρ1 (fun y ρ2 => match x, y with
  | .v (.int i), .v (.int j) => if R i j = true then h ρ2 (fun z ρ3 => match z with
    | .v (.int k) => K (.v (.bl (R' j k))) ρ3
    | _ => False) E else K (.v (.bl false)) ρ2
  | _, _ => False) E) E
/-! and, or, not as values -/
def tvE (f : BS) : ES := fun ρ K E => f ρ (fun b ρ' => K (.v (.bl b)) ρ') E
def andV (f g : ES) : ES := fun ρ K E => f ρ (fun x ρ1 => match x with
  | .v (.bl b) => if b = true then g ρ1 K E else K (.v (.bl false)) ρ1
  | _ => False) E
def orV (f g : ES) : ES := fun ρ K E => f ρ (fun x ρ1 => match x with
  | .v (.bl b) => if b = true then K (.v (.bl true)) ρ1 else g ρ1 K E
  | _ => False) E
def notV (f : ES) : ES := fun ρ K E => f ρ (fun x ρ1 => match x with
  | .v (.bl b) => K (.v (.bl (!b))) ρ1
  | _ => False) E
section
variable {a b : Expr} {f g : ES} {pos : Pos}
theorem ej_one {op} (h : EJ X c W p a f) : EJ X c W p (.BoolOp op [a] pos) f := ⟨h.mono, L2.pe_one h.run⟩
theorem ej_not (h : EJ X c W p a f) : EJ X c W p (.UnaryOp .Not a pos) (notV f) := by
  refine ⟨fun ρ K K' E E' hk he q => h.mono _ _ _ _ _ (fun x ρ1 q => by
    split at q
    · exact hk _ _ q
    · exact q) he q, PE.imp (L2.pe_not h.run) ?_⟩
  rintro σ H Q ⟨ρ, M, T, s, q⟩
  refine ⟨ρ, M, T, s, h.mono _ _ _ _ _ (fun x ρ1 q v H1 M1 as1 q1 r1 => ?_) (fun _ _ h => h) q⟩
  split at q
  · exact ⟨_, r1.bl, q _ H1 M1 [] q1.drop (.v (.bl _))⟩
  · exact q.elim
theorem ej_and {rest : List Expr} (ha : EJ X c W p1 a f) (hb : EJ X c W p2 (.BoolOp .And (b :: rest) pos) g) : EJ X c W (p1 && p2) (.BoolOp .And (a :: b :: rest) pos) (andV f g) := by
  refine ⟨fun ρ K K' E E' hk he q => ha.mono _ _ _ _ _ (fun x ρ1 q => by
    split at q
    · split at q
      · rename_i hb'; rw [if_pos hb']; exact hb.mono _ _ _ _ _ hk he q
      · rename_i hb'; rw [if_neg hb']; exact hk _ _ q
    · exact q) he q, PE.imp (L2.pe_and ha.run hb.run) ?_⟩
  rintro σ H Q ⟨ρ, M, T, s, q⟩
  refine ⟨ρ, M, T, s, ha.mono _ _ _ _ _ (fun x ρ1 q v H1 M1 as1 q1 r1 => ?_) (fun _ _ h => h) q⟩
  split at q
  · rename_i b'
    refine ⟨b', r1.bl, ?_⟩
    cases b' with
    | true =>
      refine ⟨ρ1, M1, T, q1.drop.sr, hb.mono _ _ _ _ _ (fun y ρ2 q u H2 M2 as2 q2 r2 => q u H2 M2 as2 (q1.drop.trans q2 fun _ z => z) r2) (fun x ρ2 h cls dd H2 M2 q2 r2 => h cls dd H2 M2 (q1.drop.trans q2 fun _ z => z).weak r2) q⟩
    | false => exact q _ H1 M1 [] q1.drop.left (.v (.bl _))
  · exact q.elim
/-- a if t else b -/
def ifE (t : BS) (f g : ES) : ES := fun ρ K E => t ρ (fun b ρ1 => if b = true then f ρ1 K E else g ρ1 K E) E
end
/-! x[i] -/
theorem ixN_of {α : Type} {n : Nat} {xs : List α} {i : Int} {v : α} (h : atI xs i = some v) : ∃ j, L2.ixN xs.length i = some j ∧ xs[j]? = some v := by
  unfold L2.atI at h
  cases e : L2.ixN xs.length i with
  | none => rw [e] at h; cases h
  | some j => rw [e] at h; exact ⟨j, rfl, h⟩
theorem atI_reps {g : Ge} {Z : Addr → Prop} {vs : List V} {ds : List D} {i : Int} {d : D} (r : Reps g Z M H vs ds) (h : atI ds i = some d) : ∃ v, atI vs i = some v ∧ Rep g Z M H v d := by
  obtain ⟨j, h1, h2⟩ := ixN_of (n := 0) h
  obtain ⟨v, h3, h4⟩ := r.get h2
  refine ⟨v, ?_, h4⟩
  unfold L2.atI
  rw [r.length, h1]; exact h3
theorem RepOs.get' {g : Ge} {Z : Addr → Prop} : ∀ {vs : List V} {ss : List Sl} {as : List Addr} {j : Nat} {s : Sl}, RepOs g Z M H vs ss as → ss[j]? = some s → ∃ v bs, vs[j]? = some v ∧ RepO g Z M H v s bs ∧ bs.Sublist as
  | _, _, _, _, _, .nil, e => by simp at e
  | _, _, _, 0, _, .cons r _, e => by simp at e; subst e; exact ⟨_, _, rfl, r, List.sublist_append_left _ _⟩
  | _, _, _, j + 1, s, .cons _ rs, e => by
    obtain ⟨v, bs, h1, h2, h3⟩ := rs.get' (j := j) (s := s) (by simpa using e)
    exact ⟨v, bs, by simpa using h1, h2, h3.trans (List.sublist_append_right _ _)⟩
theorem RepOs.length {g : Ge} {Z : Addr → Prop} : ∀ {vs : List V} {ss : List Sl} {as : List Addr}, RepOs g Z M H vs ss as → vs.length = ss.length
  | _, _, _, .nil => rfl
  | _, _, _, .cons _ rs => by rw [List.length_cons, List.length_cons, rs.length]
/-- an owned thing yielded -/
def slEV : Sl → Option EV
  | .no => none
  | .v d => some (.v d)
  | s => some (.m s)
theorem RepO.ev {v : V} {s : Sl} {bs : List Addr} {x : EV} (r : RepO c.g c.Z M H v s bs) (e : slEV s = some x) : VR c M H v x bs := by
  cases r with
  | v r => cases e; exact .v r
  | l h r => cases e; exact .m (.l h r)
  | t h r => cases e; exact .m (.t h r)
  | o h n a b r => cases e; exact .m (.o h n a b r)
  | ll h r => cases e; exact .m (.ll h r)
  | dt h n a r => cases e; exact .m (.dt h n a r)
theorem Post.sub {bs : List Addr} (q : Post c p σ M T H M' (as ++ T) H' ρ') (h : bs.Sublist as) : Post c p σ M T H M' (bs ++ T) H' ρ' := by
  obtain ⟨Ms, r, nd, al⟩ := q.sr.slots
  have hs : (Ms ++ (bs ++ T)).Sublist (Ms ++ (as ++ T)) := List.Sublist.append (List.Sublist.refl _) (List.Sublist.append h (List.Sublist.refl _))
  exact ⟨⟨⟨Ms, r, nd.sublist hs, fun a ha => al a (hs.subset ha)⟩, q.sr.ty, q.sr.src, q.sr.keep, q.sr.pin, q.sr.ln⟩, q.keep, q.new, q.pu⟩
def ixR : BR := fun x y K _ ρ => match y with
  | .v (.int i) => (match x with
    | .v (.str z) => z.length ≤ sizeLine ∧ (match atI z.cps.toList i with
      | some ch => K (.v (.str ⟨#[ch]⟩)) ρ
      | none => False)
    | .m (.t ss) => (match (atI ss i).bind slEV with
      | some ev => K ev ρ
      | none => False)
    | x => (match asT x with
      | some ds => (match atI ds i with
        | some d => K (.v d) ρ
        | none => False)
      | none => (match asL x with
        | some ds => (match atI ds i with
          | some d => K (.v d) ρ
          | none => False)
        | none => False)))
  | _ => False
theorem ixR_mono : MonoR ixR := fun x y ρ K K' E E' hk _ h => by
  unfold ixR at h ⊢
  split at h
  · split at h
    · refine ⟨h.1, ?_⟩
      have h2 := h.2
      split at h2
      · exact hk _ _ h2
      · exact h2
    · split at h
      · exact hk _ _ h
      · exact h
    · split at h
      · split at h
        · exact hk _ _ h
        · exact h
      · split at h
        · split at h
          · exact hk _ _ h
          · exact h
        · exact h
  · exact h
theorem ixR_says (hK : X.K = c.g.K) : Says c (L2.rIx X.K) ixR := by
  intro p σ M T H M2 H2 ρ2 as1 as2 v u x y Q E q r1 r2 h
  unfold ixR at h
  split at h
  · rename_i i
    have eu := r2.int
    split at h
    · rename_i z
      have h2 := h.2
      split at h2
      · rename_i ch e
        exact .inr (.inr ⟨z, i, ch, r1.str, eu, h.1, e, h2 _ H2 M2 [] q.drop.drop (.v (.str _))⟩)
      · exact h2.elim
    · rename_i ss
      split at h
      · rename_i ev e
        cases r1 with
        | m r1 =>
        cases r1 with
        | t ht r1 =>
        rename_i a vs
        cases e2 : atI ss i with
        | none => rw [e2] at e; cases e
        | some s =>
          rw [e2] at e
          obtain ⟨j, j1, j2⟩ := ixN_of (n := 0) e2
          obtain ⟨w, bs, w1, w2, w3⟩ := r1.get' j2
          have ew : atI vs i = some w := by unfold L2.atI; rw [r1.length, j1]; exact w1
          exact .inr (.inl ⟨a, vs, i, w, rfl, eu, hK ▸ ht, ew, h w H2 M2 bs (q.drop.sub w3) (w2.ev e)⟩)
      · exact h.elim
    · split at h
      · rename_i ds e
        obtain ⟨a, vs, ev, t, rs⟩ := r1.tuple e
        split at h
        · rename_i d ed
          obtain ⟨w, w1, w2⟩ := atI_reps rs ed
          exact .inr (.inl ⟨a, vs, i, w, ev, eu, hK ▸ t, w1, h w H2 M2 [] q.drop.drop (.v w2)⟩)
        · exact h.elim
      · split at h
        · rename_i ds e
          obtain ⟨a, vs, ev, t, rs⟩ := r1.list e
          split at h
          · rename_i d ed
            obtain ⟨w, w1, w2⟩ := atI_reps rs ed
            exact .inl ⟨a, vs, i, w, ev, eu, hK ▸ t, w1, h w H2 M2 [] q.drop.drop (.v w2)⟩
          · exact h.elim
        · exact h.elim
  · exact h.elim
theorem ej_ix {a b : Expr} {f g : ES} {pos : Pos} (hK : X.K = c.g.K) (hs : L2.PlainIx b) (ha : EJ X c W p1 a f) (hb : EJ X c W p2 b g) : EJ X c W (p1 && p2) (.Subscript a b pos) (bin p2 f g ixR) :=
  ej_bin ha hb (fun h1 h2 => L2.pe_ix L2.ix_seq h1 h2 hs) ixR_mono fun σ M T H M2 H2 ρ2 as1 as2 v u x y Q E => ixR_says hK (p1 && p2) σ M T H M2 H2 ρ2 as1 as2 v u x y Q E
end
/-! ### built-in calls by values -/
abbrev CR := List EV → (EV → Rho → Prop) → (Exc → Rho → Prop) → Rho → Prop
def MonoC (R : CR) : Prop := ∀ xs ρ K K' E E', (∀ x ρ', K x ρ' → K' x ρ') → (∀ x ρ', E x ρ' → E' x ρ') → R xs K E ρ → R xs K' E' ρ
def SaysC (c : Fr) (r : List V → Hp → VK → Prop) (R : CR) : Prop := ∀ (p : Bool) σ M T H M2 H2 ρ2 as vs xs Q E, Post c p σ M T H M2 (as ++ T) H2 ρ2 → VRs c M2 H2 vs xs as →
  R xs (fun ev ρ' => ∀ v H' M' as, Post c p σ M T H M' (as ++ T) H' ρ' → VR c M' H' v ev as → Q v H') E ρ2 → r vs H2 Q
def callV (R : CR) (g : AS) : ES := fun ρ K E => g ρ (fun xs ρ' => R xs K E ρ') E
section
variable {X : Cx} {c : Fr} {W : WX} {p p1 p2 : Bool} {e : Expr} {es : List Expr} {g : AS} {R : CR} {r : List V → Hp → VK → Prop} {x : Str} {ps pos : Pos}
theorem callV_run (ha : AJ X c W p (e :: es) g) (hR : SaysC c r R) : ∀ σ H Q, rdE c W p (callV R g) σ H Q → L2.tCB r (rdA c W p g) σ H Q := by
  rintro σ H Q ⟨ρ, M, T, s, h⟩
  exact ⟨ρ, M, T, s, ha.mono _ _ _ _ _ (fun xs ρ' k vs H' M' as q rs => hR p σ M T H M' H' ρ' as vs xs Q _ q rs k) (fun _ _ h => h) h⟩
theorem ej_callB {id : String} (hc : CallR X (.builtin id) r) (hM : MonoC R) (hR : SaysC c r R) (hg : L2.Gl X x) (hm : X.mg x = none) (hv : bootBuiltins x = some (.builtin id)) (ha : AJ X c W p (e :: es) g) (hn : x ≠ "__name__" := by decide) (hdb : (x == ("__debug__" : Str)) = false := by decide)
    (he : starEach (e :: es) X.env = (false, eval e X.env) :: starEach es X.env := by rfl) (hpl : (backTo pos (starEach es X.env)).any (·.1) = false := by rfl) : EJ X c W p (.Call (.Name x ps) (e :: es) [] pos) (callV R g) :=
  ⟨fun ρ K K' E E' hk hx q => ha.mono _ _ _ _ _ (fun xs ρ' q => hM _ _ _ _ _ _ hk hx q) hx q, PE.imp (L2.pe_callB hc hg hm hv ha.run hn hdb he hpl) (callV_run ha hR)⟩
end
section
variable {X : Cx} {c : Fr} {W : WX} {M : Addr → Prop} {H : Hp} {as : List Addr}
theorem VRs.one {vs : List V} {x : EV} (r : VRs c M H vs [x] as) : ∃ v, vs = [v] ∧ VR c M H v x as := by
  cases r with
  | cons r rs => cases rs; exact ⟨_, rfl, by simpa using r⟩
theorem VRs.two {vs : List V} {x y : EV} (r : VRs c M H vs [x, y] as) : ∃ v u as1 as2, vs = [v, u] ∧ VR c M H v x as1 ∧ VR c M H u y as2 ∧ as = as2 ++ as1 := by
  cases r with
  | cons r rs =>
    obtain ⟨u, rfl, r2⟩ := rs.one
    exact ⟨_, _, _, _, rfl, r, r2, rfl⟩
/-! len -/
def lenC : CR := fun xs K _ ρ => match xs with
  | [.v (.str z)] => z.length ≤ sizeLine ∧ K (.v (.int z.length)) ρ
  | [x] => (match asT x with
    | some ds => K (.v (.int ds.length)) ρ
    | none => (match asL x with
      | some ds => K (.v (.int ds.length)) ρ
      | none => (match x with
        | .m (.t ss) => K (.v (.int ss.length)) ρ
        | _ => False)))
  | _ => False
theorem lenC_mono : MonoC lenC := fun xs ρ K K' E E' hk _ h => by
  unfold lenC at h ⊢
  split at h
  · exact ⟨h.1, hk _ _ h.2⟩
  · split at h
    · exact hk _ _ h
    · split at h
      · exact hk _ _ h
      · split at h
        · exact hk _ _ h
        · exact h
  · exact h
theorem lenC_says (hK : X.K = c.g.K) : SaysC c (fun xs H Q => ∃ x n, xs = [x] ∧ L2.LenV X.K x H n ∧ Q (.int n) H) lenC := by
  intro p σ M T H M2 H2 ρ2 as vs xs Q E q r h
  unfold lenC at h
  split at h
  · obtain ⟨v, rfl, r1⟩ := r.one
    have e := r1.str
    subst e
    exact ⟨_, _, rfl, ⟨h.1, rfl⟩, h.2 _ H2 M2 [] q.drop (.v (.int _))⟩
  · obtain ⟨v, rfl, r1⟩ := r.one
    split at h
    · rename_i ds e
      obtain ⟨a, vs, rfl, t, rs⟩ := r1.tuple e
      refine ⟨_, _, rfl, .inr ⟨vs, hK ▸ t, rfl⟩, ?_⟩
      rw [rs.length]
      exact h _ H2 M2 [] q.drop (.v (.int _))
    · split at h
      · rename_i ds e
        obtain ⟨a, vs, rfl, t, rs⟩ := r1.list e
        refine ⟨_, _, rfl, .inl ⟨vs, hK ▸ t, rfl⟩, ?_⟩
        rw [rs.length]
        exact h _ H2 M2 [] q.drop (.v (.int _))
      · split at h
        · cases r1 with
          | m r1 =>
          cases r1 with
          | t ht rs =>
          refine ⟨_, _, rfl, .inr ⟨_, hK ▸ ht, rfl⟩, ?_⟩
          rw [rs.length]
          exact h _ H2 M2 [] q.drop (.v (.int _))
        · exact h.elim
  · exact h.elim
/-! isinstance of data, one built-in class -/
def tyN : D → Option String
  | .non => some "NoneType"
  | .bl _ => some "bool"
  | .int _ => some "int"
  | .str _ => some "str"
  | .tup _ => some "tuple"
  | .lst _ _ => some "list"
  | .dct _ _ => some "dict"
  | .ty _ => none
  | .fn _ => none
theorem Rep.tyx {g : Ge} {Z : Addr → Prop} {v : V} {d : D} {n : String} (r : Rep g Z M H v d) (e : tyN d = some n) : L2.TyX g.K H v (.type n) := by
  cases r with
  | non => cases e; exact .base .non
  | bl b => cases e; exact .base (.bl b)
  | int i => cases e; exact .base (.int i)
  | str s => cases e; exact .base (.str s)
  | ty _ => cases e
  | fn _ => cases e
  | tup h r =>
    cases e
    rcases h with (h | ⟨o, h⟩) | ⟨o, its, n, h1, h2, _⟩
    · exact .base (.tup h)
    · exact .fTuple h
    · exact .kTuple h1 h2
  | lst h r =>
    cases e
    rcases h with ⟨h, _⟩ | ⟨o, h⟩ | ⟨o, its, n, h1, h2, _⟩
    · exact .base (.lst h)
    · exact .base (.frz h)
    · exact .kList h1 h2
  | dct h _ _ _ => cases e; exact .base (.dK h)
def isiC (kb : String → String → Option Bool) : CR := fun xs K _ ρ => match xs with
  | [x, .v (.ty T)] => (match (asD x).bind tyN with
    | some n => (match kb n T with
      | some b => K (.v (.bl b)) ρ
      | none => False)
    | none => False)
  | _ => False
theorem isiC_mono {kb : String → String → Option Bool} : MonoC (isiC kb) := fun xs ρ K K' E E' hk _ h => by
  unfold isiC at h ⊢
  split at h
  · split at h
    · split at h
      · exact hk _ _ h
      · exact h
    · exact h
  · exact h
theorem VR.ty {v : V} {x : EV} {d : D} {n : String} (r : VR c M H v x as) (e : asD x = some d) (k : tyN d = some n) : L2.TyX c.g.K H v (.type n) := by
  cases r with
  | v r => cases e; exact r.tyx k
  | b l r =>
    cases e; cases k
    exact .base (.lst l)
  | m r =>
    cases r with
    | v r => rw [asD, frSl] at e; cases e; exact r.tyx k
    | l h r => rw [asD, frSl] at e; cases e; cases k; exact .base (.lst h)
    | @t a vs ss as h r =>
      rw [asD, frSl] at e
      cases q : frSls ss with
      | none => rw [q] at e; cases e
      | some ds =>
        rw [q] at e; cases e; cases k
        rcases h with (h | ⟨o, h⟩) | ⟨o, its, n, h1, h2, _⟩
        · exact .base (.tup h)
        · exact .fTuple h
        · exact .kTuple h1 h2
    | o _ _ _ _ _ => rw [asD, frSl] at e; cases e
    | dt _ _ _ _ => rw [asD, frSl] at e; cases e
    | @ll a vs ss as h r =>
      rw [asD, frSl] at e
      cases q : frSls ss with
      | none => rw [q] at e; cases e
      | some ds => rw [q] at e; cases e; cases k; exact .base (.lst h)
theorem isiC_says (hK : X.K = c.g.K) {kb : String → String → Option Bool} (hkb : ∀ a b r, kb a b = some r → L2.kitB a b = some r) : SaysC c (L2.rIsi X.K) (isiC kb) := by
  intro p σ M T H M2 H2 ρ2 as vs xs Q E q r h
  unfold isiC at h
  split at h
  · rename_i x T'
    obtain ⟨v, u, as1, as2, rfl, r1, r2, rfl⟩ := r.two
    cases r2 with
    | v r2 =>
    cases r2
    split at h
    · rename_i n e
      split at h
      · rename_i b eb
        cases e1 : asD x with
        | none => rw [e1] at e; cases e
        | some d =>
          rw [e1] at e
          exact ⟨v, _, _, _, b, rfl, .ty _, hK ▸ r1.ty e1 e, L2.kit_ty (hkb _ _ _ eb), h _ H2 M2 [] q.drop (.v (.bl _))⟩
      · exact h.elim
    · exact h.elim
  · exact h.elim
/-- what the built-in kinds are of one another -/
def kb (a b : String) : Option Bool := match a, b with
  | "int", "int" => some true
  | "bool", "int" => some true
  | "str", "int" => some false
  | "NoneType", "int" => some false
  | "tuple", "int" => some false
  | "list", "int" => some false
  | "dict", "int" => some false
  | "int", "bool" => some false
  | "bool", "bool" => some true
  | "str", "bool" => some false
  | "NoneType", "bool" => some false
  | "tuple", "bool" => some false
  | "list", "bool" => some false
  | "dict", "bool" => some false
  | "int", "str" => some false
  | "bool", "str" => some false
  | "str", "str" => some true
  | "NoneType", "str" => some false
  | "tuple", "str" => some false
  | "list", "str" => some false
  | "dict", "str" => some false
  | "int", "tuple" => some false
  | "bool", "tuple" => some false
  | "str", "tuple" => some false
  | "NoneType", "tuple" => some false
  | "tuple", "tuple" => some true
  | "list", "tuple" => some false
  | "dict", "tuple" => some false
  | "int", "list" => some false
  | "bool", "list" => some false
  | "str", "list" => some false
  | "NoneType", "list" => some false
  | "tuple", "list" => some false
  | "list", "list" => some true
  | "dict", "list" => some false
  | _, _ => none
theorem kb_ok : ∀ a b r, kb a b = some r → L2.kitB a b = some r := by
  intro a b r h
  unfold kb at h
  split at h <;> first
    | (cases h; decide +kernel)
    | cases h
end
end VS
set_option Elab.async false
set_option linter.all false
set_option maxRecDepth 100000
set_option maxHeartbeats 4000000
/-! VS6: what a def promises, calls of defs that change nothing of what they are handed; statements. Own work. -/
namespace VS
open PySem PySem.Spec PyProof.Rows
open L2 (V Hp HO upd SqL SqT Rd Cx TE TT TA TS VK XK WX PE PT PA PS PSs OpR RelV CallR Sp FnOk atI)
def pick {α : Type} : List Bool → List α → List α
  | true :: m, x :: xs => x :: pick m xs
  | false :: m, _ :: xs => pick m xs
  | _, _ => []
def retEV : EV → Bool
  | .v d => retOk d
  | .m s => retSl s
  | _ => false
/-- what a def does: from its arguments, to what it yields and what became of those that it may change -/
abbrev FS := List Sl → (EV → List Sl → Prop) → (Exc → List Sl → Prop) → Prop
def MonoF (F : FS) : Prop := ∀ ss K K' E E', (∀ x ts, K x ts → K' x ts) → (∀ x ts, E x ts → E' x ts) → F ss K E → F ss K' E'
/-- behind a call; as: what was owned of the arguments, ias: what is, ras: what the yielded thing owns -/
structure CPost (g : Ge) (Z : Addr → Prop) (mask : List Bool) (vs : List V) (as : List Addr) (H H' : Hp) (ts : List Sl) (ias ras : List Addr) : Prop where
  keep : ∀ b o, H b = some o → b ∉ as → H' b = some o
  io : RepOs g Z (fun a => a ∈ ras ++ ias) H' (pick mask vs) ts ias
  nd : (ras ++ ias).Nodup
  new : ∀ a ∈ ras ++ ias, a ∈ as ∨ H a = none
  ret : retSls ts = true
def spV (g : Ge) (mask : List Bool) (F : FS) : Sp := fun vs H Q E => ∃ (Z : Addr → Prop) (ss : List Sl) (as : List Addr),
  (∀ a, Z a → H a ≠ none) ∧ (∀ a ∈ as, ¬ Z a) ∧ RepOs g Z (fun a => a ∈ as) H vs ss as ∧ as.Nodup ∧ ss.length = mask.length ∧
  F ss (fun x ts => ∀ v H' ras ias, CPost g Z mask vs as H H' ts ias ras → VRg g Z (fun a => a ∈ ras ++ ias) H' v x ras → retEV x = true → Q v H')
    (fun x ts => ∀ cls dd H' ias, CPost g Z mask vs as H H' ts ias [] → XRg g Z (fun a => a ∈ ias) H' cls dd x → retOks x.ds = true → E cls dd H')
/-! ### calls of defs that change nothing -/
def argD : EV → Option D
  | .v d => some d
  | .b ds => some (.lst false ds)
  | .m s => frSl s
  | .p _ => none
def argDs : List EV → Option (List D)
  | [] => some []
  | x :: xs => (argD x).bind fun d => (argDs xs).map (d :: ·)
def callP (F : FS) (dd : List D) (g : AS) : ES := fun ρ K E => g ρ (fun xs ρ1 => match argDs xs with
  | some ds => F ((ds ++ dd).map .v) (fun x _ => K x ρ1) (fun x _ => E x ρ1)
  | none => False) E
section
variable {X : Cx} {c : Fr} {W : WX} {p p1 p2 : Bool} {M M' M2 : Addr → Prop} {T T' as as1 as2 : List Addr} {σ : L2.St} {H H' H2 : Hp} {ρ ρ' ρ2 : Rho}
theorem SR.noZ (s : SR c M T σ H ρ) {a : Addr} (h : M a) : ¬ c.Z a := fun z => by
  rcases s.src a h with q | q
  · exact c.zi a q z
  · exact c.zd a z q
theorem VRs.argDs : ∀ {vs : List V} {xs : List EV} {as : List Addr} {ds : List D}, VRs c M H vs xs as → argDs xs = some ds → (∀ a ∈ as, ¬ c.Z a) →
    Reps c.g (fun a => c.Z a ∨ (M a ∧ a ∉ as)) (fun _ => False) H vs ds
  | _, _, _, _, .nil, e, _ => by rw [VS.argDs] at e; cases e; exact .nil
  | _, x :: xs, _, _, .cons (as := as1) (bs := as2) r rs, e, hz => by
    rw [VS.argDs] at e
    cases q : argD x with
    | none => rw [q] at e; cases e
    | some d =>
      cases q2 : VS.argDs xs with
      | none => rw [q, q2] at e; cases e
      | some ds =>
        rw [q, q2] at e; cases e
        have rs' := rs.argDs q2 (fun a h => hz a (List.mem_append_left _ h))
        refine .cons ?_ (rs'.re (fun _ _ z => z) fun a _ _ h k => h ?_)
        · cases r with
          | v r => cases q; exact r.re (fun _ _ _ z => z) fun a _ n z k => k.elim z fun y => n y.1
          | b l r =>
            cases q
            have r' : Reps c.g (fun a => c.Z a ∨ (M a ∧ a ∉ as2 ++ [])) (fun _ => False) H _ _ := r.re (fun _ _ _ z => z) fun a _ n z k => k.elim z fun y => n y.1
            exact .lst (.inl ⟨l, fun z => z, fun z => nomatch z⟩) r'
          | m r =>
            have r' : RepO c.g (fun a => c.Z a ∨ (M a ∧ a ∉ as2 ++ as1)) (fun _ => False) H _ _ as1 := r.re (fun _ _ _ z => z) fun a _ n z k => k.elim z fun y => n y.1
            exact r'.freeze q fun a ha => ⟨fun z => z, fun k => k.elim (hz a (List.mem_append_right _ ha)) fun y => y.2 (List.mem_append_right _ ha)⟩
        · rcases k with k | ⟨k1, k2⟩
          · exact .inl k
          · exact .inr ⟨k1, fun y => k2 (List.mem_append_left _ y)⟩
theorem repOs_v {g : Ge} {Z : Addr → Prop} : ∀ {vs : List V} {ds : List D}, Reps g Z M H vs ds → RepOs g Z M H vs (ds.map .v) []
  | _, _, .nil => .nil
  | _, _, .cons r rs => .cons (as := []) (bs := []) (.v r) (repOs_v rs)
theorem pick_no {α : Type} : ∀ {m : List Bool} {xs : List α}, (∀ b ∈ m, b = false) → pick m xs = []
  | [], _, _ => by unfold pick; rfl
  | true :: _, _, h => absurd (h true List.mem_cons_self) (by simp)
  | false :: m, [], _ => rfl
  | false :: m, _ :: xs, h => pick_no (xs := xs) fun b hb => h b (List.mem_cons_of_mem _ hb)
/-- behind a call that changed nothing: the temporaries of the arguments are nobody's -/
theorem Post.call {ras : List Addr} (q : Post c p σ M T H M' (as ++ T) H' ρ') (x : Ext H' H2) (nd : ras.Nodup) (new : ∀ a ∈ ras, H' a = none) (ty : ∀ a ∈ ras, Typed H2 a) :
    Post c p σ M T H (fun a => (M' a ∧ a ∉ as) ∨ a ∈ ras) (ras ++ T) H2 ρ' := by
  obtain ⟨Ms, r, ndM, al⟩ := q.sr.slots
  obtain ⟨n1, n2, n3⟩ := List.nodup_append.mp ndM
  obtain ⟨m1, m2, m3⟩ := List.nodup_append.mp n2
  have r1 : RepS c.g c.Z (fun a => M' a ∧ a ∉ as) H' σ ρ' Ms := r.re (fun _ _ n z => n z.1) fun _ _ _ z => z
  have mv : Moved (fun _ => False) (fun a => M' a ∧ a ∉ as) (fun a => (M' a ∧ a ∉ as) ∨ a ∈ ras) H' H2 := ⟨fun b o e _ => x b o e, fun _ h => h.elim, fun _ h => h.elim, fun a h => h.imp id (new a)⟩
  have tr : ∀ a, M' a → a ∉ ras := fun a h z => (q.sr.ty a h).ne (new a z)
  refine ⟨⟨⟨Ms, r1.moved mv fun _ _ z => z, ?_, fun a ha => ?_⟩, fun a ha => ?_, fun a ha => ?_, fun b o e h => x b o (q.sr.keep b o e h), q.sr.pin, q.sr.ln⟩, fun b o e h => x b o (q.keep b o e h), fun a ha => ?_, fun e => (q.pu e).trans x⟩
  · refine List.nodup_append.mpr ⟨n1, List.nodup_append.mpr ⟨nd, m2, fun a ha b hb e => tr b (al b (List.mem_append_right _ (List.mem_append_right _ hb))) (e ▸ ha)⟩, fun a ha b hb e => ?_⟩
    rcases List.mem_append.mp hb with hb | hb
    · exact tr a (al a (List.mem_append_left _ ha)) (e ▸ hb)
    · exact n3 a ha b (List.mem_append_right _ hb) e
  · rcases List.mem_append.mp ha with ha | ha
    · exact .inl ⟨al a (List.mem_append_left _ ha), fun z => n3 a ha a (List.mem_append_left _ z) rfl⟩
    · rcases List.mem_append.mp ha with ha | ha
      · exact .inr ha
      · exact .inl ⟨al a (List.mem_append_right _ (List.mem_append_right _ ha)), fun z => m3 a z a ha rfl⟩
  · rcases ha with ha | ha
    · rcases q.sr.ty a ha.1 with ⟨_, e⟩ | ⟨_, _, _, e⟩ | ⟨_, e⟩
      · exact .inl ⟨_, x _ _ e⟩
      · exact .inr (.inl ⟨_, _, _, x _ _ e⟩)
      · exact .inr (.inr ⟨_, x _ _ e⟩)
    · exact ty a ha
  · rcases ha with ha | ha
    · exact q.sr.src a ha.1
    · by_cases z : a ∈ c.io
      · exact .inl z
      · refine .inr ?_
        cases e : c.H0 a with
        | none => rfl
        | some u => have := q.sr.keep a u e z; rw [new a ha] at this; cases this
  · rcases ha with ha | ha
    · exact q.new a ha.1
    · by_cases z : M a
      · exact .inl z
      · refine .inr ?_
        cases e : H a with
        | none => rfl
        | some u => have := q.keep a u e (fun y => absurd y z); rw [new a ha] at this; cases this
theorem VRg.back {g : Ge} {Z Z' : Addr → Prop} (hM : ∀ a, H a ≠ none → ¬ M a → ¬ Z a → ¬ M' a) (hZ : ∀ a, H a ≠ none → ¬ M a → ¬ Z a → ¬ Z' a) {v : V} {x : EV} {as : List Addr} (r : VRg g Z M H v x as) (k : retEV x = true) : VRg g Z' M' H v x as := by
  cases r with
  | v r => exact .v (r.back hM hZ k)
  | b _ _ => exact absurd k (by simp [retEV])
  | m r => exact .m (r.back hM hZ k)
theorem VRg.typed {g : Ge} {Z : Addr → Prop} {v : V} {x : EV} {as : List Addr} (r : VRg g Z M H v x as) : ∀ a ∈ as, Typed H a := by
  cases r with
  | v _ => exact fun a h => absurd h (by simp)
  | b _ _ => exact fun a h => absurd h (by simp)
  | m r => exact r.typed
theorem XRg.back {g : Ge} {Z Z' : Addr → Prop} (hM : ∀ a, H a ≠ none → ¬ M a → ¬ Z a → ¬ M' a) (hZ : ∀ a, H a ≠ none → ¬ M a → ¬ Z a → ¬ Z' a) {cls : Value} {dd : Option Addr} {x : Exc} (r : XRg g Z M H cls dd x) (k : retOks x.ds = true) : XRg g Z' M' H cls dd x := by
  cases r with
  | no h => exact .no h
  | yes h h1 h2 h3 r => exact .yes h h1 h2 h3 (r.back hM hZ k)
theorem callP_run {mask : List Bool} {F : FS} {dvs : List V} {dd : List D} (hdd : ∀ Z M H, Reps c.g Z M H dvs dd) {es : List Expr} {g : AS} {E : L2.St → XK} (hm : ∀ b ∈ mask, b = false) (hF : MonoF F) (hl : ∀ ss K E, F ss K E → ss.length = mask.length) (ha : AJ X c W p es g) (hE : ∀ σ cls dd H, W cls dd σ H → E σ cls dd H) :
    ∀ σ H Q, rdE c W p (callP F dd g) σ H Q → rdA c W p g σ H (fun vs H1 => spV c.g mask F (vs ++ dvs) H1 Q (E σ)) := by
  rintro σ H Q ⟨ρ, M, T, s, h⟩
  refine ⟨ρ, M, T, s, ha.mono _ _ _ _ _ (fun xs ρ1 k vs H1 M1 as q r => ?_) (fun _ _ h => h) h⟩
  split at k
  · rename_i ds e
    have hz : ∀ a ∈ as, ¬ c.Z a := fun a ha => by
      obtain ⟨Ms, _, _, al⟩ := q.sr.slots
      exact q.sr.noZ (al a (List.mem_append_right _ (List.mem_append_left _ ha)))
    have r' := (r.argDs e hz).append (hdd (fun a => c.Z a ∨ (M1 a ∧ a ∉ as)) (fun _ => False) H1)
    refine ⟨fun a => c.Z a ∨ (M1 a ∧ a ∉ as), (ds ++ dd).map .v, [], fun a z => ?_, fun _ h => absurd h (by simp), (repOs_v r').re (fun _ _ _ z => absurd z (by simp)) (fun _ _ _ z => z), .nil, hl _ _ _ k, hF _ _ _ _ _ (fun x ts k v H2 ras ias cp rv re => ?_) (fun x ts k cls dd H2 ias cp rx re => ?_) k⟩
    · rcases z with z | z
      · intro e2
        by_cases y : a ∈ c.io
        · exact c.zi a y z
        · cases e3 : c.H0 a with
          | none => exact c.zd a z e3
          | some o => have := q.sr.keep a o e3 y; rw [e2] at this; cases this
      · exact (q.sr.ty a z.1).ne
    · have ei : ias = [] ∧ ts = [] := by
        have := cp.io
        rw [pick_no hm] at this
        cases this; exact ⟨rfl, rfl⟩
      obtain ⟨rfl, rfl⟩ := ei
      have x2 : Ext H1 H2 := fun b o e => cp.keep b o e (by simp)
      have new : ∀ a ∈ ras, H1 a = none := fun a ha => by
        rcases cp.new a (List.mem_append_left _ ha) with z | z
        · exact absurd z (by simp)
        · exact z
      have nd : ras.Nodup := by simpa using cp.nd
      refine k v H2 (fun a => (M1 a ∧ a ∉ as) ∨ a ∈ ras) ras (q.call x2 nd new rv.typed) (rv.back (fun a _ n z y => ?_) (fun a _ n z y => z (.inl y)) re)
      rcases y with y | y
      · exact z (.inr y)
      · exact n (List.mem_append_left _ y)
    · have ei : ias = [] ∧ ts = [] := by
        have := cp.io
        rw [pick_no hm] at this
        cases this; exact ⟨rfl, rfl⟩
      obtain ⟨rfl, rfl⟩ := ei
      have x2 : Ext H1 H2 := fun b o e => cp.keep b o e (by simp)
      have q2 := q.weak.call x2 (ras := []) .nil (fun a h => absurd h (by simp)) (fun a h => absurd h (by simp))
      refine hE _ _ _ _ (k cls dd H2 _ q2 (rx.back (fun a _ n z y => ?_) (fun a _ n z y => z (.inl y)) re))
      rcases y with y | y
      · exact z (.inr y)
      · exact absurd y (by simp)
  · exact k.elim
theorem callP_mono {F : FS} {dd : List D} {g : AS} (hF : MonoF F) (hg : MonoA g) : Mono (callP F dd g) := fun ρ K K' E E' hk he h => hg _ _ _ _ _ (fun xs ρ1 h => by
  split at h
  · exact hF _ _ _ _ _ (fun x _ h => hk _ _ h) (fun x _ h => he _ _ h) h
  · exact h) he h
/-- f(e, ..): the def at f; dd: what its defaults stand for -/
theorem ej_callP {mask : List Bool} {F : FS} {k : Nat} {f : Addr} {fd : FuncData} {ps : List Str} {x : Str} {pp pos : Pos} {e : Expr} {es : List Expr} {g : AS} {dvs : List V} {dus : List Value} {dd : List D} (hF : MonoF F) (hl : ∀ ss K E, F ss K E → ss.length = mask.length) (hm : ∀ b ∈ mask, b = false)
    (G : FnOk X.prog X.w X.K X.mg X.base (L2.CX X.prog X.w) k f fd ps (spV c.g mask F)) (hr : L2.Room k X.A) (hg : L2.Gl X x) (hmg : X.mg x = some (.ref f)) (hk : PySem.W.keepIn X.K (.ref f) = true) (hb : L2.Binds X.K fd ps dus) (hd : L2.Vals dvs dus) (hdd : ∀ Z M H, Reps c.g Z M H dvs dd) (tk : L2.Takes X W)
    (ha : AJ X c W p (e :: es) g) (hdb : (x == ("__debug__" : Str)) = false := by decide) (he : starEach (e :: es) X.env = (false, eval e X.env) :: starEach es X.env := by rfl) (hpl : (backTo pos (starEach es X.env)).any (·.1) = false := by rfl) :
    EJ X c W p (.Call (.Name x pp) (e :: es) [] pos) (callP F dd g) :=
  ⟨callP_mono hF ha.mono, PE.imp (L2.pe_callSD (E := L2.WE W) G hr hg hmg hk hb hd (fun σ => L2.passAt tk σ) ha.run hdb he hpl) (callP_run hdd hm hF hl ha fun _ _ _ _ h => h)⟩
end
/-! ### statements -/
structure SK where
  nx : Rho → Prop
  rt : EV → Rho → Prop
  ex : Exc → Rho → Prop
  bk : Rho → Prop
  ct : Rho → Prop
def SK.le (a b : SK) : Prop := (∀ ρ, a.nx ρ → b.nx ρ) ∧ (∀ x ρ, a.rt x ρ → b.rt x ρ) ∧ (∀ x ρ, a.ex x ρ → b.ex x ρ) ∧ (∀ ρ, a.bk ρ → b.bk ρ) ∧ (∀ ρ, a.ct ρ → b.ct ρ)
abbrev SS := Rho → SK → Prop
def MonoS (f : SS) : Prop := ∀ ρ k k', SK.le k k' → f ρ k → f ρ k'
theorem SK.le.refl (k : SK) : SK.le k k := ⟨fun _ h => h, fun _ _ h => h, fun _ _ h => h, fun _ h => h, fun _ h => h⟩
/-- the ends of a statement from (M, T, H) -/
def skOf (c : Fr) (W : WX) (D : L2.Ends) (M : Addr → Prop) (T : List Addr) (H : Hp) : SK where
  nx ρ' := ∀ σ' H' M', Post c false σ' M T H M' T H' ρ' → D.nx σ' H'
  rt x ρ' := ∀ σ' v H' M' as, Post c false σ' M T H M' (as ++ T) H' ρ' → VR c M' H' v x as → D.rt v H'
  ex x ρ' := ∀ σ' cls dd H' M', Post c false σ' M T H M' T H' ρ' → XRep c M' H' cls dd x → W cls dd σ' H'
  bk ρ' := ∀ σ' H' M', Post c false σ' M T H M' T H' ρ' → D.bk σ' H'
  ct ρ' := ∀ σ' H' M', Post c false σ' M T H M' T H' ρ' → D.ct σ' H'
def rdS (c : Fr) (W : WX) (f : SS) : TS := fun D σ H => ∃ ρ M T, SR c M T σ H ρ ∧ f ρ (skOf c W D M T H)
structure SJ (X : Cx) (c : Fr) (W : WX) (st : Stmt) (f : SS) : Prop where
  mono : MonoS f
  run : PS X st (rdS c W f)
structure SJs (X : Cx) (c : Fr) (W : WX) (sts : List Stmt) (f : SS) : Prop where
  mono : MonoS f
  run : PSs X sts (rdS c W f)
theorem PS.imp {X : Cx} {st : Stmt} {t t' : TS} (h : PS X st t) (i : ∀ D σ H, t' D σ H → t D σ H) : PS X st t' := ⟨fun pins s σ H D I q => h.run pins s σ H D I (i D σ H q)⟩
theorem PSs.imp {X : Cx} {st : List Stmt} {t t' : TS} (h : PSs X st t) (i : ∀ D σ H, t' D σ H → t D σ H) : PSs X st t' := ⟨fun pins s σ H D I q => h.run pins s σ H D I (i D σ H q)⟩
section
variable {X : Cx} {c : Fr} {W : WX} {p p1 p2 : Bool} {M M1 M' M2 : Addr → Prop} {T T' as as1 as2 : List Addr} {σ σ1 : L2.St} {H H1 H' H2 : Hp} {ρ ρ1 ρ' ρ2 : Rho} {De : L2.Ends}
/-- from a state on the way to the ends: what is wanted of the rest -/
theorem skOf_after (q : Post c p σ1 M T H M1 T H1 ρ1) : SK.le (skOf c W De M T H) (skOf c W De M1 T H1) :=
  ⟨fun ρ' k σ' H' M' q2 => k σ' H' M' (q.trans q2 fun _ z => z).weak, fun x ρ' k σ' v H' M' as q2 r => k σ' v H' M' as (q.trans q2 fun _ z => z).weak r,
   fun x ρ' k σ' cls dd H' M' q2 r => k σ' cls dd H' M' (q.trans q2 fun _ z => z).weak r, fun ρ' k σ' H' M' q2 => k σ' H' M' (q.trans q2 fun _ z => z).weak, fun ρ' k σ' H' M' q2 => k σ' H' M' (q.trans q2 fun _ z => z).weak⟩
def nxS : SS := fun ρ k => k.nx ρ
def seqS (f g : SS) : SS := fun ρ k => f ρ { k with nx := fun ρ' => g ρ' k }
theorem seqS_mono {f g : SS} (hf : MonoS f) (hg : MonoS g) : MonoS (seqS f g) := fun ρ k k' l h => hf _ { k with nx := fun ρ' => g ρ' k } _ ⟨fun ρ' q => hg _ _ _ l q, l.2.1, l.2.2.1, l.2.2.2.1, l.2.2.2.2⟩ h
theorem sjs_nil : SJs X c W [] nxS := ⟨fun ρ k k' l h => l.1 _ h, PSs.imp L2.pss_nil fun D σ H ⟨ρ, M, T, s, h⟩ => h σ H M (Post.refl s)⟩
theorem sjs_one {st : Stmt} {f : SS} (h : SJ X c W st f) : SJs X c W [st] f := ⟨h.mono, L2.pss_one h.run⟩
theorem sjs_cons {st : Stmt} {sts : List Stmt} {f g : SS} (h : SJ X c W st f) (hs : SJs X c W sts g) : SJs X c W (st :: sts) (seqS f g) := by
  refine ⟨seqS_mono h.mono hs.mono, PSs.imp (L2.pss_cons h.run hs.run) ?_⟩
  rintro D σ H ⟨ρ, M, T, s, k⟩
  exact ⟨ρ, M, T, s, h.mono _ { skOf c W D M T H with nx := fun ρ' => g ρ' (skOf c W D M T H) } _ ⟨fun ρ' k σ' H' M' q => ⟨ρ', M', T, q.sr, hs.mono _ _ _ (skOf_after q) k⟩, fun _ _ h => h, fun _ _ h => h, fun _ h => h, fun _ h => h⟩ k⟩
def bkS : SS := fun ρ k => k.bk ρ
def ctS : SS := fun ρ k => k.ct ρ
/-- an expression, its value dropped -/
def exprS (f : ES) : SS := fun ρ k => f ρ (fun _ ρ' => k.nx ρ') k.ex
theorem exc_le (x : Exc) (ρ' : Rho) (h : (skOf c W De M T H).ex x ρ') : ∀ cls dd H' M', Post c false σ M T H M' T H' ρ' → XRep c M' H' cls dd x → W cls dd σ H' := fun cls dd H' M' q r => h σ cls dd H' M' q r
theorem sj_expr {e : Expr} {f : ES} {pos : Pos} (h : EJ X c W p e f) (hs : swapsWith e none pos.line X.env = pure false := by rfl) : SJ X c W (.Expr e pos) (exprS f) := by
  refine ⟨fun ρ k k' l q => h.mono _ _ _ _ _ (fun _ _ => l.1 _) (fun _ _ => l.2.2.1 _ _) q, PS.imp (L2.ps_expr h.run hs) ?_⟩
  rintro D σ H ⟨ρ, M, T, s, k⟩
  exact ⟨ρ, M, T, s, h.mono _ _ _ _ _ (fun x ρ' k v H' M' as q r => k σ H' M' q.drop.weak) (fun x ρ' k => exc_le x ρ' k) k⟩
def retS (f : ES) : SS := fun ρ k => f ρ (fun x ρ' => k.rt x ρ') k.ex
theorem sj_ret {e : Expr} {f : ES} {pos : Pos} (h : EJ X c W p e f) : SJ X c W (.Return (some e) pos) (retS f) := by
  refine ⟨fun ρ k k' l q => h.mono _ _ _ _ _ (fun _ _ => l.2.1 _ _) (fun _ _ => l.2.2.1 _ _) q, PS.imp (L2.ps_ret h.run) ?_⟩
  rintro D σ H ⟨ρ, M, T, s, k⟩
  exact ⟨ρ, M, T, s, h.mono _ _ _ _ _ (fun x ρ' k v H' M' as q r => k σ v H' M' as q.weak r) (fun x ρ' k => exc_le x ρ' k) k⟩
def retNS : SS := fun ρ k => k.rt (.v .non) ρ
def ifS (t : BS) (f g : SS) : SS := fun ρ k => t ρ (fun b ρ' => if b = true then f ρ' k else g ρ' k) k.ex
theorem sj_if {ct : Expr} {a b : List Stmt} {t : BS} {f g : SS} {pos : Pos} (hc : TJ X c W p ct t) (ha : SJs X c W a f) (hb : SJs X c W b g) : SJ X c W (.If ct a b pos) (ifS t f g) := by
  refine ⟨fun ρ k k' l q => hc.mono _ _ _ _ _ (fun b ρ' q => ?_) (fun _ _ => l.2.2.1 _ _) q, PS.imp (L2.ps_if hc.run ha.run hb.run) ?_⟩
  · split at q
    · rename_i h; rw [if_pos h]; exact ha.mono _ _ _ l q
    · rename_i h; rw [if_neg h]; exact hb.mono _ _ _ l q
  · rintro D σ H ⟨ρ, M, T, s, k⟩
    refine ⟨ρ, M, T, s, hc.mono _ _ _ _ _ (fun b ρ' k H' M' q => ?_) (fun x ρ' k => exc_le x ρ' k) k⟩
    split at k
    · rename_i h; rw [if_pos h]; exact ⟨ρ', M', T, q.sr, ha.mono _ _ _ (skOf_after q) k⟩
    · rename_i h; rw [if_neg h]; exact ⟨ρ', M', T, q.sr, hb.mono _ _ _ (skOf_after q) k⟩
end
/-! ### what a name is given -/
def evSl : EV → Option Sl
  | .v d => some (.v d)
  | .m s => some s
  | .b _ => none
  | .p _ => none
/-- name = value; fz: what is owned is owned no more -/
def setS (i : Nat) (fz : Bool) (f : ES) : SS := fun ρ k => f ρ (fun x ρ' => match evSl x with
  | some s => (match (if fz then (frSl s).map .v else some s) with
    | some s' => i < ρ'.length ∧ k.nx (ρ'.set i s')
    | none => False)
  | none => False) k.ex
section
variable {X : Cx} {c : Fr} {W : WX} {p p1 p2 : Bool} {M M1 M' M2 : Addr → Prop} {T T' as as1 as2 : List Addr} {σ σ1 : L2.St} {H H1 H' H2 : Hp} {ρ ρ1 ρ' ρ2 : Rho} {De : L2.Ends}
/-- a value on its way goes into a slot -/
theorem Post.put {i : Nat} {v : V} {s : Sl} (q : Post c p σ M T H M' (as ++ T) H' ρ') (r : RepO c.g c.Z M' H' v s as) (hi : i < ρ'.length) (hm : c.mask[i]? ≠ some true) : Post c p (σ.set i (some v)) M T H M' T H' (ρ'.set i s) := by
  obtain ⟨Ms, rs, nd, al⟩ := q.sr.slots
  obtain ⟨n1, n2, n3⟩ := List.nodup_append.mp nd
  obtain ⟨m1, m2, m3⟩ := List.nodup_append.mp n2
  obtain ⟨Ms', rs', h1, h2⟩ := RepS.put r rs hi
  refine ⟨⟨⟨Ms', rs', ?_, fun a ha => ?_⟩, q.sr.ty, q.sr.src, q.sr.keep, fun j hj => ?_, by rw [List.length_set]; exact q.sr.ln⟩, q.keep, q.new, q.pu⟩
  · refine List.nodup_append.mpr ⟨h2 n1 m1 fun a ha z => n3 a z a (List.mem_append_left _ ha) rfl, m2, fun a ha b hb e => ?_⟩
    rcases h1 a ha with z | z
    · exact n3 a z b (List.mem_append_right _ hb) e
    · exact m3 a z b hb e
  · rcases List.mem_append.mp ha with z | z
    · rcases h1 a z with z | z
      · exact al a (List.mem_append_left _ z)
      · exact al a (List.mem_append_right _ (List.mem_append_left _ z))
    · exact al a (List.mem_append_right _ (List.mem_append_right _ z))
  · have ne : i ≠ j := fun e => hm (e ▸ hj)
    rw [List.getElem?_set_ne ne]; exact q.sr.pin j hj
theorem VRg.sl {g : Ge} {Z : Addr → Prop} {v : V} {x : EV} {s : Sl} (r : VRg g Z M H v x as) (e : evSl x = some s) : RepO g Z M H v s as := by
  cases r with
  | v r => cases e; exact .v r
  | b _ _ => cases e
  | m r => cases e; exact r
/-- a value on its way is owned no more -/
theorem Post.frz {v : V} {s : Sl} {d : D} (q : Post c p σ M T H M' (as ++ T) H' ρ') (r : RepO c.g c.Z M' H' v s as) (e : frSl s = some d) : Post c p σ M T H (fun a => M' a ∧ a ∉ as) ([] ++ T) H' ρ' ∧ Rep c.g c.Z (fun a => M' a ∧ a ∉ as) H' v d := by
  have q2 := q.call (Ext.refl _) (ras := []) .nil (fun a h => absurd h (by simp)) (fun a h => absurd h (by simp))
  have eM : (fun a => (M' a ∧ a ∉ as) ∨ a ∈ ([] : List Addr)) = fun a => M' a ∧ a ∉ as := by funext a; simp
  rw [eM] at q2
  refine ⟨q2, (r.re (M' := fun a => M' a ∧ a ∉ as) (fun a _ n z => n z.1) fun _ _ _ z => z).freeze e fun a ha => ⟨fun z => z.2 ha, ?_⟩⟩
  obtain ⟨Ms, _, _, al⟩ := q.sr.slots
  exact q.sr.noZ (al a (List.mem_append_right _ (List.mem_append_left _ ha)))
theorem setS_mono {i : Nat} {fz : Bool} {f : ES} (hf : Mono f) : MonoS (setS i fz f) := fun ρ k k' l q => hf _ _ _ _ _ (fun x ρ' q => by
  split at q
  · split at q
    · exact ⟨q.1, l.1 _ q.2⟩
    · exact q
  · exact q) (fun _ _ => l.2.2.1 _ _) q
theorem setS_run {i : Nat} {fz : Bool} {f : ES} (hf : Mono f) (hm : c.mask[i]? ≠ some true) : ∀ D σ H, rdS c W (setS i fz f) D σ H → rdE c W p f σ H (fun v H1 => D.nx (σ.set i (some v)) H1) := by
  rintro D σ H ⟨ρ, M, T, s, k⟩
  refine ⟨ρ, M, T, s, hf _ _ _ _ _ (fun x ρ' k v H' M' as q r => ?_) (fun x ρ' k => exc_le x ρ' k) k⟩
  split at k
  · rename_i s' e
    have ro := r.sl e
    cases fz with
    | false => exact k.2 _ H' M' (q.weak.put ro k.1 hm)
    | true =>
      cases e2 : frSl s' with
      | none => simp [e2] at k
      | some d =>
        simp only [e2, if_true, Option.map_some] at k
        obtain ⟨q2, r2⟩ := q.weak.frz ro e2
        exact k.2 _ H' _ (q2.put (as := []) (.v r2) k.1 hm)
  · exact k.elim
theorem sj_set {i : Nat} {fz : Bool} {x : Str} {e : Expr} {f : ES} {pos pos' : Pos} (h : EJ X c W p e f) (hm : c.mask[i]? ≠ some true) (hN : X.N.Nodup) (hi : X.N[i]? = some x) (hx : L2.Loc X.env.scope x) (hs : swapsWith e (some (.Name x pos')) pos.line X.env = pure false := by rfl) (hf : X.fn x = true ∨ X.env.scope.names.lookup x = some .local := by first | exact .inl rfl | exact .inr rfl | assumption) :
    SJ X c W (.Assign [.Name x pos'] e pos) (setS i fz f) := ⟨setS_mono h.mono, PS.imp (L2.ps_set hN hi hx h.run hs hf) fun D σ H q => setS_run h.mono hm D σ H q⟩
end
end VS
set_option Elab.async false
set_option linter.all false
set_option maxRecDepth 100000
set_option maxHeartbeats 4000000
/-! VS7: targets, loops. Own work. -/
namespace VS
open PySem PySem.Spec PyProof.Rows
open L2 (V Hp HO upd SqL SqT Rd Cx TE TT TA TS TG TGs VK XK WX PE PT PA PS PSs PG PGs OpR RelV CallR Sp FnOk atI)
/-- the ends of a loop's body: w, what is wanted of the next turn -/
def SK.loop (k : SK) (w : Rho → Prop) : SK := ⟨w, k.rt, k.ex, k.nx, w⟩
/-! ### while -/
def whileN (t : BS) (f : SS) : Nat → SS
  | 0 => fun _ _ => False
  | n + 1 => fun ρ k => t ρ (fun b ρ' => if b = true then f ρ' (k.loop fun ρ2 => whileN t f n ρ2 k) else k.nx ρ') k.ex
def whileS (t : BS) (f : SS) : SS := fun ρ k => ∃ n, whileN t f n ρ k
section
variable {X : Cx} {c : Fr} {W : WX} {p p1 p2 : Bool} {M M1 M' M2 : Addr → Prop} {T T' as as1 as2 : List Addr} {σ σ1 : L2.St} {H H1 H' H2 : Hp} {ρ ρ1 ρ' ρ2 : Rho}
theorem whileN_mono {t : BS} {f : SS} (ht : MonoB t) (hf : MonoS f) : ∀ n, MonoS (whileN t f n)
  | 0 => fun _ _ _ _ h => h.elim
  | n + 1 => fun ρ k k' l h => ht _ _ _ _ _ (fun b ρ' h => by
      split at h
      · rename_i hb; rw [if_pos hb]
        exact hf _ (k.loop fun ρ2 => whileN t f n ρ2 k) (k'.loop fun ρ2 => whileN t f n ρ2 k') ⟨fun ρ2 h => whileN_mono ht hf n _ _ _ l h, l.2.1, l.2.2.1, l.1, fun ρ2 h => whileN_mono ht hf n _ _ _ l h⟩ h
      · rename_i hb; rw [if_neg hb]; exact l.1 _ h) (fun _ _ => l.2.2.1 _ _) h
theorem sj_while {ct : Expr} {body : List Stmt} {t : BS} {f : SS} {pos : Pos} (hp : PassesOwn (model X.prog X.w) X.A X.env X.xe) (hc : TJ X c W p ct t) (hb : SJs X c W body f) : SJ X c W (.While ct body [] pos) (whileS t f) := by
  refine ⟨fun ρ k k' l ⟨n, h⟩ => ⟨n, whileN_mono hc.mono hb.mono n _ _ _ l h⟩, PS.imp (L2.ps_while hp hc.run hb.run) ?_⟩
  rintro D σ H ⟨ρ, M, T, s, n, k⟩
  refine ⟨fun m σ H => ∃ ρ M T, SR c M T σ H ρ ∧ whileN t f m ρ (skOf c W D M T H), ⟨n, ρ, M, T, s, k⟩, ?_⟩
  rintro m σ H ⟨ρ, M, T, s, k⟩
  cases m with
  | zero => exact k.elim
  | succ m =>
    refine ⟨ρ, M, T, s, hc.mono _ _ _ _ _ (fun b ρ' k H1 M1 q => ?_) (fun x ρ' k => exc_le x ρ' k) k⟩
    split at k
    · rename_i hb'; rw [if_pos hb']
      refine ⟨fun σ H => ∃ ρ M T, SR c M T σ H ρ ∧ whileN t f m ρ (skOf c W D M T H), fun σ' H' h => ⟨m, Nat.lt_succ_self m, h⟩, ρ', M1, T, q.sr, hb.mono _ ((skOf c W D M T H).loop fun ρ2 => whileN t f m ρ2 (skOf c W D M T H)) _ ⟨fun ρ2 k σ2 H2 M2 q2 => ?_, fun x ρ2 k => (skOf_after (W := W) (De := D) q).2.1 x ρ2 k, fun x ρ2 k => (skOf_after (W := W) (De := D) q).2.2.1 x ρ2 k, fun ρ2 k => (skOf_after (W := W) (De := D) q).1 ρ2 k, fun ρ2 k σ2 H2 M2 q2 => ?_⟩ k⟩
      · exact ⟨ρ2, M2, T, q2.sr, whileN_mono hc.mono hb.mono m _ _ _ (skOf_after (q.trans q2 fun _ z => z)) k⟩
      · exact ⟨ρ2, M2, T, q2.sr, whileN_mono hc.mono hb.mono m _ _ _ (skOf_after (q.trans q2 fun _ z => z)) k⟩
    · rename_i hb'; rw [if_neg hb']; exact k σ H1 M1 q.weak
end
/-! ### targets -/
abbrev GS := Sl → Rho → (Rho → Prop) → Prop
def MonoG (f : GS) : Prop := ∀ s ρ K K', (∀ ρ', K ρ' → K' ρ') → f s ρ K → f s ρ K'
def rdG (c : Fr) (f : GS) : TG := fun v σ H Q => ∃ ρ M T s as, SR c M (as ++ T) σ H ρ ∧ RepO c.g c.Z M H v s as ∧ f s ρ (fun ρ' => ∀ σ' M', SR c M' T σ' H ρ' → (∀ a, M' a → M a) → Q σ' H)
structure GJ (X : Cx) (c : Fr) (e : Expr) (f : GS) : Prop where
  mono : MonoG f
  run : PG X e (rdG c f)
abbrev GSs := List Sl → Rho → (Rho → Prop) → Prop
def MonoGs (f : GSs) : Prop := ∀ s ρ K K', (∀ ρ', K ρ' → K' ρ') → f s ρ K → f s ρ K'
def rdGs (c : Fr) (f : GSs) : TGs := fun vs σ H Q => ∃ ρ M T ss as, SR c M (as ++ T) σ H ρ ∧ RepOs c.g c.Z M H vs ss as ∧ f ss ρ (fun ρ' => ∀ σ' M', SR c M' T σ' H ρ' → (∀ a, M' a → M a) → Q σ' H)
structure GJs (X : Cx) (c : Fr) (es : List Expr) (f : GSs) : Prop where
  mono : MonoGs f
  run : PGs X es (rdGs c f)
theorem PG.imp {X : Cx} {e : Expr} {t t' : TG} (h : PG X e t) (i : ∀ v σ H Q, t' v σ H Q → t v σ H Q) : PG X e t' := ⟨fun pins s σ H v u Q I r q => h.run pins s σ H v u Q I r (i v σ H Q q)⟩
theorem PGs.imp {X : Cx} {e : List Expr} {t t' : TGs} (h : PGs X e t) (i : ∀ v σ H Q, t' v σ H Q → t v σ H Q) : PGs X e t' := ⟨fun pins s σ H v u Q I r q => h.run pins s σ H v u Q I r (i v σ H Q q)⟩
def gN (i : Nat) (fz : Bool) : GS := fun s ρ K => match (if fz then (frSl s).map .v else some s) with
  | some s' => i < ρ.length ∧ K (ρ.set i s')
  | none => False
def gNil : GSs := fun ss ρ K => match ss with
  | [] => K ρ
  | _ => False
def gCons (f : GS) (g : GSs) : GSs := fun ss ρ K => match ss with
  | s :: ss => f s ρ (fun ρ1 => g ss ρ1 K)
  | [] => False
/-- a, b, .. = a tuple of n things -/
def gT (n : Nat) (g : GSs) : GS := fun s ρ K => match s with
  | .v (.tup ds) => ds.length = n ∧ g (ds.map .v) ρ K
  | .t ss => ss.length = n ∧ g ss ρ K
  | _ => False
section
variable {X : Cx} {c : Fr} {W : WX} {p p1 p2 : Bool} {M M1 M' M2 : Addr → Prop} {T T' as as1 as2 : List Addr} {σ σ1 : L2.St} {H H1 H' H2 : Hp} {ρ ρ1 ρ' ρ2 : Rho}
theorem SR.put {i : Nat} {v : V} {s : Sl} (q : SR c M (as ++ T) σ H ρ) (r : RepO c.g c.Z M H v s as) (hi : i < ρ.length) (hm : c.mask[i]? ≠ some true) : SR c M T (σ.set i (some v)) H (ρ.set i s) :=
  (Post.put (p := true) (M := M) (T := T) (H := H) ⟨q, fun _ _ h _ => h, fun _ h => .inl h, fun _ => Ext.refl _⟩ r hi hm).sr
theorem SR.frz {v : V} {s : Sl} {d : D} (q : SR c M (as ++ T) σ H ρ) (r : RepO c.g c.Z M H v s as) (e : frSl s = some d) : SR c (fun a => M a ∧ a ∉ as) T σ H ρ ∧ Rep c.g c.Z (fun a => M a ∧ a ∉ as) H v d := by
  obtain ⟨a, b⟩ := Post.frz (p := true) (M := M) (T := T) (H := H) ⟨q, fun _ _ h _ => h, fun _ h => .inl h, fun _ => Ext.refl _⟩ r e
  exact ⟨a.sr, b⟩
theorem gj_name {i : Nat} {fz : Bool} {x : Str} {pos : Pos} (hm : c.mask[i]? ≠ some true) (hN : X.N.Nodup) (hi : X.N[i]? = some x) (hx : L2.Loc X.env.scope x) (hf : X.fn x = true ∨ X.env.scope.names.lookup x = some .local := by first | exact .inl rfl | exact .inr rfl | assumption) : GJ X c (.Name x pos) (gN i fz) := by
  refine ⟨fun s ρ K K' hk h => ?_, PG.imp (L2.pg_name hN hi hx hf) ?_⟩
  · unfold gN at h ⊢
    split at h
    · exact ⟨h.1, hk _ h.2⟩
    · exact h
  · rintro v σ H Q ⟨ρ, M, T, s, as, sr, r, h⟩
    unfold gN at h
    split at h
    · rename_i s' e
      cases fz with
      | false =>
        simp only [Bool.false_eq_true, if_false, Option.some.injEq] at e
        subst e
        exact h.2 _ M (sr.put r h.1 hm) fun _ h => h
      | true =>
        cases e2 : frSl s with
        | none => simp [e2] at e
        | some d =>
          simp only [e2, if_true, Option.map_some, Option.some.injEq] at e
          subst e
          obtain ⟨sr2, r2⟩ := sr.frz r e2
          exact h.2 _ (fun a => M a ∧ a ∉ as) (sr2.put (as := []) (.v r2) h.1 hm) fun _ h => h.1
    · exact h.elim
theorem gjs_nil : GJs X c [] gNil := by
  refine ⟨fun ss ρ K K' hk h => ?_, PGs.imp L2.pgs_nil ?_⟩
  · unfold gNil at h ⊢
    split at h
    · exact hk _ h
    · exact h
  · rintro vs σ H Q ⟨ρ, M, T, ss, as, sr, r, h⟩
    unfold gNil at h
    split at h
    · cases r
      exact ⟨rfl, h σ M sr fun _ h => h⟩
    · exact h.elim
theorem gjs_cons {e : Expr} {es : List Expr} {f : GS} {g : GSs} (h1 : GJ X c e f) (h2 : GJs X c es g) (hs : (assignEach (e :: es) X.env).map (·.2) = assign e X.env :: (assignEach es X.env).map (·.2) := by rfl) : GJs X c (e :: es) (gCons f g) := by
  refine ⟨fun ss ρ K K' hk h => ?_, PGs.imp (L2.pgs_cons h1.run h2.run hs) ?_⟩
  · unfold gCons at h ⊢
    split at h
    · exact h1.mono _ _ _ _ (fun _ h => h2.mono _ _ _ _ hk h) h
    · exact h
  · rintro vs σ H Q ⟨ρ, M, T, ss, as, sr, r, h⟩
    unfold gCons at h
    split at h
    · cases r with
      | cons r rs =>
        rename_i s0 ss0 v as1 vs bs
        have sr' : SR c M (as1 ++ (bs ++ T)) σ H ρ := by rw [← List.append_assoc]; exact sr
        refine ⟨v, vs, rfl, ρ, M, bs ++ T, s0, as1, sr', r, h1.mono _ _ _ _ (fun ρ1 h σ1 M1 q1 hM => ?_) h⟩
        have rs' : RepOs c.g c.Z M1 H vs ss0 bs := rs.re (fun a _ n z => n (hM a z)) fun _ _ _ z => z
        exact ⟨ρ1, M1, T, ss0, bs, q1, rs', h2.mono _ _ _ _ (fun ρ2 h σ2 M2 q2 hM2 => h σ2 M2 q2 fun a z => hM a (hM2 a z)) h⟩
    · exact h.elim
theorem gj_tup {es : List Expr} {k n : Nat} {g : GSs} {pos : Pos} (hK : X.K = c.g.K) (hc : X.calm = true) (h : GJs X c es g) (hn : (assignEach es X.env).length = n := by rfl) (hst : (assignEach es X.env).findIdx? (·.1) = none := by rfl) : GJ X c (.Tuple es k pos) (gT n g) := by
  refine ⟨fun s ρ K K' hk h' => ?_, PG.imp (L2.pg_tup hc h.run hn hst) ?_⟩
  · unfold gT at h' ⊢
    split at h'
    · exact ⟨h'.1, h.mono _ _ _ _ hk h'.2⟩
    · exact ⟨h'.1, h.mono _ _ _ _ hk h'.2⟩
    · exact h'
  · rintro v σ H Q ⟨ρ, M, T, s, as, sr, r, h'⟩
    unfold gT at h'
    split at h'
    · cases r with
      | v r =>
      cases r with
      | tup t r => exact ⟨_, _, rfl, hK ▸ t, r.length.trans h'.1, ρ, M, T, _, [], sr, repOs_v r, h'.2⟩
    · cases r with
      | t t r => exact ⟨_, _, rfl, hK ▸ t, r.length.trans h'.1, ρ, M, T, _, as, sr, r, h'.2⟩
    · exact h'.elim
/-- target = value -/
def asgS (g : GS) (f : ES) : SS := fun ρ k => f ρ (fun x ρ' => match evSl x with
  | some s => g s ρ' k.nx
  | none => False) k.ex
theorem sj_asg {tg e : Expr} {g : GS} {f : ES} {pos : Pos} (he : EJ X c W p e f) (hg : GJ X c tg g) (hs : swapsWithSole [tg] e pos.line X.env = pure false := by rfl) (hw : swappedStores [tg] e X.env = pure none := by rfl) (h1 : (assignEach [tg] X.env).map (·.2) = [assign tg X.env] := by rfl) :
    SJ X c W (.Assign [tg] e pos) (asgS g f) := by
  refine ⟨fun ρ k k' l q => he.mono _ _ _ _ _ (fun x ρ' q => ?_) (fun _ _ => l.2.2.1 _ _) q, PS.imp (L2.ps_asg he.run hg.run hs hw h1) ?_⟩
  · split at q
    · exact hg.mono _ _ _ _ l.1 q
    · exact q
  · rintro D σ H ⟨ρ, M, T, s, k⟩
    refine ⟨ρ, M, T, s, he.mono _ _ _ _ _ (fun x ρ' k v H' M' as q r => ?_) (fun x ρ' k => exc_le x ρ' k) k⟩
    split at k
    · rename_i s' e
      exact ⟨ρ', M', T, s', as, q.sr, r.sl e, hg.mono _ _ _ _ (fun ρ2 k σ2 M2 q2 hM => k σ2 H' M2 ⟨q2, q.keep, fun a z => q.new a (hM a z), fun e => nomatch e⟩) k⟩
    · exact k.elim
/-- a, b = x, y with plain names -/
def parS (i j : Nat) (g : AS) : SS := fun ρ k => g ρ (fun xs ρ' => match xs with
  | [x, y] => (match evSl x, evSl y with
    | some s, some t => i < ρ'.length ∧ j < ρ'.length ∧ k.nx ((ρ'.set i s).set j t)
    | _, _ => False)
  | _ => False) k.ex
theorem sj_par {i j : Nat} {x y : Str} {a b : Expr} {g : AS} {px py pt pos : Pos} {kt k2 pt2} (hmi : c.mask[i]? ≠ some true) (hmj : c.mask[j]? ≠ some true) (hc : X.calm = true) (hN : X.N.Nodup) (hi : X.N[i]? = some x) (hj : X.N[j]? = some y) (hij : i ≠ j)
    (hx : X.env.scope.names.lookup x = some .local) (hy : X.env.scope.names.lookup y = some .local) (ha : AJ X c W p [a, b] g)
    (hw : swappedStores [.Tuple [.Name x px, .Name y py] kt pt] (.Tuple [a, b] k2 pt2) X.env = pure (some [x, y]))
    (hs : swapsWithSole [.Tuple [.Name x px, .Name y py] kt pt] (.Tuple [a, b] k2 pt2) pos.line X.env = pure false := by rfl) : SJ X c W (.Assign [.Tuple [.Name x px, .Name y py] kt pt] (.Tuple [a, b] k2 pt2) pos) (parS i j g) := by
  refine ⟨fun ρ k k' l q => ha.mono _ _ _ _ _ (fun xs ρ' q => ?_) (fun _ _ => l.2.2.1 _ _) q, PS.imp (L2.ps_par hc hN hi hj hij hx hy ha.run hw hs) ?_⟩
  · split at q
    · split at q
      · exact ⟨q.1, q.2.1, l.1 _ q.2.2⟩
      · exact q
    · exact q
  · rintro D σ H ⟨ρ, M, T, s, k⟩
    refine ⟨ρ, M, T, s, ha.mono _ _ _ _ _ (fun xs ρ' k vs H' M' as q r => ?_) (fun x ρ' k => exc_le x ρ' k) k⟩
    split at k
    · obtain ⟨v, u, as1, as2, rfl, r1, r2, rfl⟩ := r.two
      split at k
      · rename_i s1 s2 e1 e2
        have q' := q.weak
        rw [List.append_assoc] at q'
        have hm2 : as1 ++ T = as1 ++ T := rfl
        -- the second value stays on its way while the first one is put
        have qp : Post c false σ M T H M' (as1 ++ (as2 ++ T)) H' ρ' := by
          obtain ⟨Ms, rs, nd, al⟩ := q'.sr.slots
          have pm : (Ms ++ (as1 ++ (as2 ++ T))).Perm (Ms ++ (as2 ++ (as1 ++ T))) := by
            refine List.Perm.append_left _ ?_
            rw [← List.append_assoc, ← List.append_assoc]
            exact List.Perm.append_right _ List.perm_append_comm
          exact ⟨⟨⟨Ms, rs, pm.nodup_iff.mpr nd, fun a ha => al a (pm.mem_iff.mp ha)⟩, q'.sr.ty, q'.sr.src, q'.sr.keep, q'.sr.pin, q'.sr.ln⟩, q'.keep, q'.new, q'.pu⟩
        have w1 := SR.put qp.sr (r1.sl e1) k.1 hmi
        have w2 := SR.put w1 (r2.sl e2) (by rw [List.length_set]; exact k.2.1) hmj
        exact ⟨v, u, rfl, k.2.2 _ H' M' ⟨w2, q'.keep, q'.new, fun e => nomatch e⟩⟩
      · exact k.elim
    · exact k.elim
end
end VS
set_option Elab.async false
set_option linter.all false
set_option maxRecDepth 100000
set_option maxHeartbeats 4000000
/-! VS8: a def keeps its promise; raise; what a call changes of its caller's slots; built-in methods. Own work. -/
namespace VS
open PySem PySem.Spec PyProof.Rows
open L2 (V Hp HO upd SqL SqT Rd Cx TE TT TA TS TG TGs VK XK WX PE PT PA PS PSs PG PGs OpR RelV CallR Sp FnOk atI)
def defK (mask : List Bool) (K : EV → List Sl → Prop) (E : Exc → List Sl → Prop) : SK where
  nx ρ' := retSls (pick mask ρ') = true ∧ K (.v .non) (pick mask ρ')
  rt x ρ' := (retEV x = true ∧ retSls (pick mask ρ') = true) ∧ K x (pick mask ρ')
  ex x ρ' := (retOks x.ds = true ∧ retSls (pick mask ρ') = true) ∧ E x (pick mask ρ')
  bk _ := False
  ct _ := False
/-- a def by its body -/
def defF (mask : List Bool) (m : Nat) (sf : SS) : FS := fun ss K E => ss.length = mask.length ∧ sf (ss ++ List.replicate (m - ss.length) .no) (defK mask K E)
theorem defF_len {mask : List Bool} {m : Nat} {sf : SS} : ∀ ss K E, defF mask m sf ss K E → ss.length = mask.length := fun _ _ _ h => h.1
section
variable {g : Ge} {Z M M' : Addr → Prop} {H H' : Hp}
theorem RepS.pick : ∀ (m : List Bool) {σ : L2.St} {ρ : Rho} {Ms : List Addr}, RepS g Z M H σ ρ Ms → retSls (pick m ρ) = true → ∃ us ias, VS.pick m σ = us.map some ∧ RepOs g Z M H us (VS.pick m ρ) ias ∧ ias.Sublist Ms
  | [], σ, ρ, _, _, _ => ⟨[], [], by cases σ <;> rfl, by cases ρ <;> exact .nil, List.nil_sublist _⟩
  | true :: m, _, _, _, .nil, _ => ⟨[], [], rfl, .nil, List.nil_sublist _⟩
  | false :: m, _, _, _, .nil, _ => ⟨[], [], rfl, .nil, List.nil_sublist _⟩
  | false :: m, _, _, _, .no r, h => by
    obtain ⟨us, ias, h1, h2, h3⟩ := r.pick m h
    exact ⟨us, ias, h1, h2, h3⟩
  | false :: m, _, _, _, .yes q r, h => by
    obtain ⟨us, ias, h1, h2, h3⟩ := r.pick m h
    exact ⟨us, ias, h1, h2, h3.trans (List.sublist_append_right _ _)⟩
  | true :: m, _, _, _, .no (ρ := ρ) r, h => by
    have : (retSl .no && retSls (VS.pick m ρ)) = true := h
    rw [Bool.and_eq_true] at this
    exact absurd this.1 (by simp [retSl])
  | true :: m, _, _, _, .yes (v := v) (s := s) (ρ := ρ) q r, h => by
    have h' : (retSl s && retSls (VS.pick m ρ)) = true := h
    rw [Bool.and_eq_true] at h'
    obtain ⟨us, ias, h1, h2, h3⟩ := r.pick m h'.2
    exact ⟨v :: us, _ ++ ias, by show _ :: VS.pick m _ = _; rw [h1]; rfl, .cons q h2, List.Sublist.append (List.Sublist.refl _) h3⟩
theorem pick_congr {α : Type} : ∀ (m : List Bool) {xs ys : List α}, xs.length = ys.length → (∀ j : Nat, m[j]? = some true → xs[j]? = ys[j]?) → pick m xs = pick m ys
  | [], xs, ys, _, _ => by cases xs <;> cases ys <;> rfl
  | _ :: _, [], [], _, _ => rfl
  | _ :: _, [], _ :: _, h, _ => by simp at h
  | _ :: _, _ :: _, [], h, _ => by simp at h
  | true :: m, x :: xs, y :: ys, hl, h => by
    have e : x = y := by have := h 0 rfl; simpa using this
    subst e
    show x :: pick m xs = x :: pick m ys
    rw [pick_congr m (by simpa using hl) fun j hj => by have := h (j + 1) (by simpa using hj); simpa using this]
  | false :: m, x :: xs, y :: ys, hl, h => pick_congr m (xs := xs) (ys := ys) (by simpa using hl) fun j hj => by have := h (j + 1) (by simpa using hj); simpa using this
theorem pick_map : ∀ (m : List Bool) {vs : List V} {r : List (Option V)}, vs.length = m.length → pick m (vs.map some ++ r) = (pick m vs).map some
  | [], [], r, _ => by cases r <;> rfl
  | [], _ :: _, _, h => by simp at h
  | _ :: _, [], _, h => by simp at h
  | true :: m, v :: vs, r, h => by
    show some v :: pick m (vs.map some ++ r) = some v :: (pick m vs).map some
    rw [pick_map m (by simpa using h)]
  | false :: m, v :: vs, r, h => pick_map m (vs := vs) (by simpa using h)
theorem repS_no : ∀ (n : Nat), RepS g Z M H (List.replicate n none) (List.replicate n .no) []
  | 0 => .nil
  | n + 1 => .no (repS_no n)
theorem repS_start {n : Nat} : ∀ {vs : List V} {ss : List Sl} {as : List Addr}, RepOs g Z M H vs ss as → RepS g Z M H (vs.map some ++ List.replicate n none) (ss ++ List.replicate n .no) as
  | _, _, _, .nil => repS_no n
  | _, _, _, .cons r rs => .yes r (repS_start rs)
theorem map_some_inj : ∀ {xs ys : List V}, xs.map some = ys.map some → xs = ys
  | [], [], _ => rfl
  | [], _ :: _, h => by simp at h
  | _ :: _, [], h => by simp at h
  | x :: xs, y :: ys, h => by
    simp only [List.map_cons, List.cons.injEq, Option.some.injEq] at h
    rw [h.1, map_some_inj h.2]
end
section
variable {P : Program} {w : World} {K : PySem.W.Frag} {mg : Str → Option Value} {base : Heap}
/-- the context of a body -/
abbrev frOf (K : PySem.W.Frag) (mg : Str → Option Value) (mask : List Bool) (Z : Addr → Prop) (H0 : Hp) (io : List Addr) (zd : ∀ a, Z a → H0 a ≠ none) (zi : ∀ a ∈ io, ¬ Z a) (s0 : L2.St) : Fr := ⟨⟨K, mg⟩, Z, H0, io, zd, zi, mask, s0⟩
theorem end_post {c : Fr} {x : EV} {σ' : L2.St} {v : V} {as as' : List Addr} {M' : Addr → Prop} {H H' : Hp} {ρ' : Rho} {vs : List V} {N : List Str} (h0 : c.H0 = H) (hio : c.io = as) (hs : c.s0 = L2.start N vs) (hl : vs.length = c.mask.length) (hN : vs.length ≤ N.length)
    (q : Post c false σ' (fun a => a ∈ as) [] H M' (as' ++ []) H' ρ') (hx : retSls (pick c.mask ρ') = true) :
    ∃ ias, CPost c.g c.Z c.mask vs as H H' (pick c.mask ρ') ias as' ∧ (∀ a ∈ as' ++ ias, M' a) := by
  obtain ⟨Ms, r, nd, al⟩ := q.sr.slots
  obtain ⟨us, ias, h1, h2, h3⟩ := r.pick c.mask hx
  have e : VS.pick c.mask σ' = (VS.pick c.mask vs).map some := by
    rw [pick_congr c.mask (ys := c.s0) ?_ q.sr.pin, hs]
    · exact pick_map c.mask hl
    · exact q.sr.ln
  have eu : us = VS.pick c.mask vs := map_some_inj (h1.symm.trans e)
  subst eu
  have hM : ∀ a ∈ as' ++ ias, M' a := fun a ha => al a (by
    rcases List.mem_append.mp ha with ha | ha
    · exact List.mem_append_right _ (List.mem_append_left _ ha)
    · exact List.mem_append_left _ (h3.subset ha))
  refine ⟨ias, ⟨fun b o eb hb => ?_, h2.back (fun a _ n z k => n (hM a k)) (fun _ _ _ z => z) hx, ?_, fun a ha => ?_, hx⟩, hM⟩
  · exact q.keep b o eb fun z => absurd z hb
  · obtain ⟨n1, n2, n3⟩ := List.nodup_append.mp nd
    exact List.nodup_append.mpr ⟨(List.nodup_append.mp n2).1, n1.sublist h3, fun a ha b hb e => n3 b (h3.subset hb) a (List.mem_append_left _ ha) e.symm⟩
  · exact q.new a (hM a ha)
theorem def_ok {x qual : Str} {st : Stmt} {f : Addr} {fd : FuncData} {N ps : List Str} {k : Nat} {mask : List Bool} {sf : SS} {dvs : List V} {kws : List (Str × V)} (F : L2.FunD K x qual (L2.defArgs st) (L2.defBody st) (L2.defScope st) dvs kws f fd) (S : L2.FnScope N ps (L2.defScope st)) (hml : mask.length = ps.length) (hpl : ps.length ≤ N.length)
    (hbody : ∀ (cdv : Value) (A : Around) (outer : List Env) (s : Shared) (H : Hp) (E : XK) (Z : Addr → Prop) (H0 : Hp) (io : List Addr) (zd : ∀ a, Z a → H0 a ≠ none) (zi : ∀ a ∈ io, ¬ Z a) (s0 : L2.St), L2.Room k (A.deeper (envOfC qual (L2.defScope st) s.heap.objs.size f cdv)) →
      SJs (L2.cxOf (L2.CX P w) P w K mg base N qual (L2.defScope st) f cdv A outer s H E) (frOf K mg mask Z H0 io zd zi s0) (fun cls dd _ H => E cls dd H) (L2.defBody st) sf) :
    FnOk P w K mg base (L2.CX P w) (k + 1) f fd ps (spV ⟨K, mg⟩ mask (defF mask N.length sf)) := by
  have hlv : ∀ vs H Q E, spV ⟨K, mg⟩ mask (defF mask N.length sf) vs H Q E → vs.length = ps.length := fun vs H Q E ⟨Z, ss, as, _, _, r, _, hl, _⟩ => by rw [r.length, hl, hml]
  refine F.ok (CX := L2.CX P w) S hlv fun cdv A outer s H vs Q E hr hsp => ?_
  have hv := hlv vs H Q E hsp
  obtain ⟨Z, ss, as, zd, za, r, nd, hl, _, hF⟩ := hsp
  have J := hbody cdv A outer s H E Z H as zd za (L2.start N vs) hr
  refine ⟨_, J.run, ss ++ List.replicate (N.length - ss.length) .no, fun a => a ∈ as, [], ?_, ?_⟩
  · have e : L2.start N vs = vs.map some ++ List.replicate (N.length - ss.length) none := by unfold L2.start; rw [r.length]
    exact ⟨⟨as, by rw [e]; exact repS_start r, by rw [List.append_nil]; exact nd, fun a h => by simpa using h⟩, fun a h => r.typed a h, fun a h => .inl h, fun b o e _ => e, fun _ _ => rfl, rfl⟩
  · have hlc : vs.length = (frOf K mg mask Z H as zd za (L2.start N vs)).mask.length := by show vs.length = mask.length; omega
    refine J.mono _ (defK mask _ _) _ ⟨fun ρ' h σ' H' M' q => ?_, fun x ρ' h σ' v H' M' as' q rv => ?_, fun x ρ' h σ' cls dd H' M' q rx => ?_, fun _ h => h.elim, fun _ h => h.elim⟩ hF
    · obtain ⟨ias, cp, hM⟩ := end_post (c := frOf K mg mask Z H as zd za (L2.start N vs)) (x := .v .non) (v := .non) (as' := []) (N := N) rfl rfl rfl hlc (by omega) q h.1
      exact h.2 .non H' [] ias cp (.v .non) rfl
    · obtain ⟨ias, cp, hM⟩ := end_post (c := frOf K mg mask Z H as zd za (L2.start N vs)) (x := x) (v := v) (N := N) rfl rfl rfl hlc (by omega) q h.1.2
      exact h.2 v H' as' ias cp (rv.back (fun a _ n _ k => n (hM a k)) (fun _ _ _ z => z) h.1.1) h.1.1
    · obtain ⟨ias, cp, hM⟩ := end_post (c := frOf K mg mask Z H as zd za (L2.start N vs)) (x := .v .non) (v := .non) (as' := []) (N := N) rfl rfl rfl hlc (by omega) q h.1.2
      exact h.2 cls dd H' ias cp (rx.back (fun a _ n _ k => n (hM a (List.mem_append_right _ k))) (fun _ _ _ z => z) h.1.1) h.1.1
end
end VS
set_option Elab.async false
set_option linter.all false
set_option maxRecDepth 100000
set_option maxHeartbeats 4000000
/-! VS9: defs by name, raise, more built-in calls. Own work. -/
namespace VS
open PySem PySem.Spec PyProof.Rows
open L2 (V Hp HO upd SqL SqT Rd Cx TE TT TA TS TG TGs VK XK WX PE PT PA PS PSs PG PGs OpR RelV CallR Sp FnOk atI)
/-- the def that stands under the name x keeps the promise F, within k calls -/
structure Def (P : Program) (w : World) (K : PySem.W.Frag) (mg : Str → Option Value) (base : Heap) (k : Nat) (x : Str) (ps : List Str) (mask : List Bool) (F : FS) : Prop where
  ex : ∃ f fd, FnOk P w K mg base (L2.CX P w) k f fd ps (spV ⟨K, mg⟩ mask F) ∧ mg x = some (.ref f) ∧ PySem.W.keepIn K (.ref f) = true ∧ L2.Binds K fd ps [] ∧ ∃ oc od osl, K.lookup f = some ⟨oc, od, .func fd, osl⟩
  mono : MonoF F
  len : ∀ ss K E, F ss K E → ss.length = mask.length
/-- the text of the def that stands under the name x -/
structure At (K : PySem.W.Frag) (mg : Str → Option Value) (x qual : Str) (st : Stmt) (ps : List Str) : Prop where
  ex : ∃ nm f fd dvs kws, L2.FunD K nm qual (L2.defArgs st) (L2.defBody st) (L2.defScope st) dvs kws f fd ∧ mg x = some (.ref f) ∧ L2.Binds K fd ps []
theorem spV_imp {g : Ge} {mask : List Bool} {F F' : FS} (h : ∀ ss K E, F' ss K E → F ss K E) : ∀ vs H Q E, spV g mask F' vs H Q E → spV g mask F vs H Q E :=
  fun vs H Q E ⟨Z, ss, as, h1, h2, h3, h4, h5, h6⟩ => ⟨Z, ss, as, h1, h2, h3, h4, h5, h _ _ _ h6⟩
section
variable {P : Program} {w : World} {K : PySem.W.Frag} {mg : Str → Option Value} {base : Heap}
theorem Def.imp {k : Nat} {x : Str} {ps : List Str} {mask : List Bool} {F F' : FS} (d : Def P w K mg base k x ps mask F) (hm : MonoF F') (hl : ∀ ss K E, F' ss K E → ss.length = mask.length) (h : ∀ ss K E, F' ss K E → F ss K E) : Def P w K mg base k x ps mask F' := by
  obtain ⟨f, fd, G, h1, h2, h3⟩ := d.ex
  exact ⟨⟨f, fd, G.imp (spV_imp h), h1, h2, h3⟩, hm, hl⟩
/-- .. without what its callers ask besides -/
structure DefR (P : Program) (w : World) (K : PySem.W.Frag) (mg : Str → Option Value) (base : Heap) (k : Nat) (x : Str) (ps : List Str) (mask : List Bool) (F : FS) : Prop where
  ex : ∃ f fd, FnOk P w K mg base (L2.CX P w) k f fd ps (spV ⟨K, mg⟩ mask F) ∧ mg x = some (.ref f) ∧ PySem.W.keepIn K (.ref f) = true ∧ L2.Binds K fd ps [] ∧ ∃ oc od osl, K.lookup f = some ⟨oc, od, .func fd, osl⟩
/-- a nicer promise -/
theorem DefR.def {k : Nat} {x : Str} {ps : List Str} {mask : List Bool} {F F' : FS} (d : DefR P w K mg base k x ps mask F) (hm : MonoF F') (h : ∀ ss K E, F' ss K E → F ss K E) (hl : ∀ ss K E, F ss K E → ss.length = mask.length) : Def P w K mg base k x ps mask F' := by
  obtain ⟨f, fd, G, h1, h2, h3⟩ := d.ex
  exact ⟨⟨f, fd, G.imp (spV_imp h), h1, h2, h3⟩, hm, fun ss K E q => hl ss K E (h ss K E q)⟩
/-- a def by its body -/
theorem DefR.mk' {x qual : Str} {st : Stmt} {N ps : List Str} {k : Nat} {mask : List Bool} {sf : SS} (A : At K mg x qual st ps) (S : L2.FnScope N ps (L2.defScope st)) (hml : mask.length = ps.length) (hpl : ps.length ≤ N.length)
    (hbody : ∀ (f : Addr) (cdv : Value) (A : Around) (outer : List Env) (s : Shared) (H : Hp) (E : XK) (Z : Addr → Prop) (H0 : Hp) (io : List Addr) (zd : ∀ a, Z a → H0 a ≠ none) (zi : ∀ a ∈ io, ¬ Z a) (s0 : L2.St), L2.Room k (A.deeper (envOfC qual (L2.defScope st) s.heap.objs.size f cdv)) →
      SJs (L2.cxOf (L2.CX P w) P w K mg base N qual (L2.defScope st) f cdv A outer s H E) (frOf K mg mask Z H0 io zd zi s0) (fun cls dd _ H => E cls dd H) (L2.defBody st) sf) :
    DefR P w K mg base (k + 1) x ps mask (defF mask N.length sf) := by
  obtain ⟨nm, f, fd, dvs, kws, F, h1, h2⟩ := A.ex
  have lk : ∃ oc od osl, K.lookup f = some ⟨oc, od, .func fd, osl⟩ := by
    obtain ⟨oc, od, dV, kV, doc, pm, an, cdv, ct, osl, rfl, lk, _⟩ := F.ex
    exact ⟨_, _, _, lk⟩
  exact ⟨⟨f, fd, def_ok F S hml hpl (hbody f), h1, F.kp, h2, lk⟩⟩
/-- an own error class of one text -/
structure XCls (K : PySem.W.Frag) (mg : Str → Option Value) (x : Str) : Prop where
  ex : ∃ C, mg x = some (.ref C) ∧ PySem.W.excIn K C [.type "ValueError", .type "Exception", .type "BaseException", .type "object"] "ValueError.__new__" = true ∧ PySem.W.keepIn K (.ref C) = true ∧ PySem.W.subIn K (.ref C) (.type "BaseException") = some true ∧ PySem.W.typeIn K (.ref C) = some (.type "type")
end
section
variable {X : Cx} {c : Fr} {W : WX} {p p1 p2 : Bool} {M M' M2 : Addr → Prop} {T T' as as1 as2 : List Addr} {σ : L2.St} {H H' H2 : Hp} {ρ ρ' ρ2 : Rho}
/-- f(e, ..) of a def that changes nothing of what it is handed -/
theorem ej_call {mask : List Bool} {F : FS} {j k : Nat} {ps : List Str} {x : Str} {pp pos : Pos} {e : Expr} {es : List Expr} {g : AS} (d : Def X.prog X.w c.g.K c.g.mg X.base j x ps mask F) (hm : ∀ b ∈ mask, b = false)
    (hK : X.K = c.g.K) (hmg : X.mg = c.g.mg) (hr : L2.Room k X.A) (hjk : j ≤ k) (hg : L2.Gl X x) (tk : L2.Takes X W)
    (ha : AJ X c W p (e :: es) g) (hdb : (x == ("__debug__" : Str)) = false := by decide) (he : starEach (e :: es) X.env = (false, eval e X.env) :: starEach es X.env := by rfl) (hpl : (backTo pos (starEach es X.env)).any (·.1) = false := by rfl) :
    EJ X c W p (.Call (.Name x pp) (e :: es) [] pos) (callP F [] g) := by
  obtain ⟨f, fd, G, h1, h2, h3⟩ := d.ex
  have G' : FnOk X.prog X.w X.K X.mg X.base (L2.CX X.prog X.w) j f fd ps (spV c.g mask F) := by rw [hK, hmg]; exact G
  exact ej_callP d.mono d.len hm G' (hr.mono hjk) hg (by rw [hmg]; exact h1) (by rw [hK]; exact h2) (by rw [hK]; exact h3.1) .nil (fun _ _ _ => .nil) tk ha hdb he hpl
/-- raise X('..') of an own class without __init__ -/
def raiseS (cn : Str) : SS := fun ρ k => k.ex ⟨cn, [], []⟩ ρ
theorem sj_raise {x m : Str} {j : Nat} {pp p2 pos pos' : Pos} (hK : X.K = c.g.K) (hmg : X.mg = c.g.mg) (hc : X.calm = true) (tk : L2.Takes X W) (xc : XCls c.g.K c.g.mg x) (hg : L2.Gl X x)
    (hdb : (x == ("__debug__" : Str)) = false := by decide) : SJ X c W (.Raise (some (.Call (.Name x pp) [.Constant (.str m) j p2] [] pos)) none pos') (raiseS x) := by
  obtain ⟨C, gC, q, kC, sb, ty⟩ := xc.ex
  have gC' : X.mg x = some (.ref C) := by rw [hmg]; exact gC
  refine ⟨fun ρ k k' l h => l.2.2.1 _ _ h, PS.imp (L2.ps_raise hc tk (L2.pmk_own PySem.F.excBase_ValueError (by rw [hK]; exact q) gC' (by rw [hK]; exact kC) (L2.raises_own (by rw [hK]; exact sb) (by rw [hK]; exact ty)) hg hdb)) ?_⟩
  rintro D σ H ⟨ρ, M, T, s, k⟩
  exact k σ _ _ H M (Post.refl s) (.no gC)
/-! abs of an int, max and min of two ints, divmod -/
def absC : CR := fun xs K _ ρ => match xs with
  | [.v (.int i)] => K (.v (.int (if i < 0 then -i else i))) ρ
  | _ => False
theorem absC_mono : MonoC absC := fun xs ρ K K' E E' hk _ h => by
  unfold absC at h ⊢
  split at h
  · exact hk _ _ h
  · exact h
theorem absC_says : SaysC c (fun xs H Q => ∃ i, xs = [.int i] ∧ Q (.int (if i < 0 then -i else i)) H) absC := by
  intro p σ M T H M2 H2 ρ2 as vs xs Q E q r h
  unfold absC at h
  split at h
  · obtain ⟨v, rfl, r1⟩ := r.one
    exact ⟨_, by rw [r1.int], h _ H2 M2 [] q.drop (.v (.int _))⟩
  · exact h.elim
theorem call_divmodV (hP : PyX X) : CallR X (.builtin "divmod") (fun xs H Q => ∃ i j, xs = [.int i, .int j] ∧ DivOk i j ∧ ∀ p, H p = none → Q (.ref p) (upd H p (.tup [.int (i.fdiv j), .int (i.fmod j)]))) := by
  intro pins s σ H xs us Q I r h
  obtain ⟨i, j, rfl, h1, q⟩ := h
  obtain ⟨u, w', rfl, ⟨t, rfl⟩, ⟨t', rfl⟩⟩ := L2.vals2 r
  refine divmod_int h1 ?_ (.inr (PyA.room hP I))
  have hn : H s.heap.objs.size = none := I.hok.fresh (Nat.le_refl _)
  refine ⟨.ref s.heap.objs.size, _, ?_, rfl, q _ hn⟩
  refine I.laid (fun b o e => Heap.get?_push_of_some _ e) (Nat.le_refl _) ⟨by simp only [List.length_cons, List.length_nil]; rw [sizeLine_eq]; decide, [.int (i.fdiv j) s.toks, .int (i.fmod j) (s.toks + 1)], .cons ⟨_, rfl⟩ (.cons ⟨_, rfl⟩ .nil), ?_⟩
  exact ⟨_, Heap.get?_push_size s.heap rfl, rfl, 0, rfl⟩
def divmodC : CR := fun xs K _ ρ => match xs with
  | [.v (.int i), .v (.int j)] => DivOk i j ∧ K (.v (.tup [.int (i.fdiv j), .int (i.fmod j)])) ρ
  | _ => False
theorem divmodC_mono : MonoC divmodC := fun xs ρ K K' E E' hk _ h => by
  unfold divmodC at h ⊢
  split at h
  · exact ⟨h.1, hk _ _ h.2⟩
  · exact h
theorem divmodC_says : SaysC c (fun xs H Q => ∃ i j, xs = [.int i, .int j] ∧ DivOk i j ∧ ∀ p, H p = none → Q (.ref p) (upd H p (.tup [.int (i.fdiv j), .int (i.fmod j)]))) divmodC := by
  intro p σ M T H M2 H2 ρ2 as vs xs Q E q r h
  unfold divmodC at h
  split at h
  · obtain ⟨v, u, as1, as2, rfl, r1, r2, rfl⟩ := r.two
    refine ⟨_, _, by rw [r1.int, r2.int], h.1, fun pa hp => ?_⟩
    exact h.2 _ _ M2 [] (q.drop.ext (Ext.new hp)) (.v (.tup (.inl (.inl L2.upd_same)) (.cons (.int _) (.cons (.int _) .nil))))
  · exact h.elim
/-- max, min of two ints -/
def mmC (mx : Bool) : CR := fun xs K _ ρ => match xs with
  | [.v (.int i), .v (.int j)] => K (.v (.int (if (if mx then decide (j > i) else decide (j < i)) then j else i))) ρ
  | _ => False
theorem mmC_mono {mx : Bool} : MonoC (mmC mx) := fun xs ρ K K' E E' hk _ h => by
  unfold mmC at h ⊢
  split at h
  · exact hk _ _ h
  · exact h
theorem maxC_says : SaysC c (fun xs H Q => ∃ i j, xs = [.int i, .int j] ∧ Q (.int (if j > i then j else i)) H) (mmC true) := by
  intro p σ M T H M2 H2 ρ2 as vs xs Q E q r h
  unfold mmC at h
  split at h
  · obtain ⟨v, u, as1, as2, rfl, r1, r2, rfl⟩ := r.two
    refine ⟨_, _, by rw [r1.int, r2.int], ?_⟩
    simp only [if_true, decide_eq_true_eq] at h
    exact h _ H2 M2 [] q.drop (.v (.int _))
  · exact h.elim
theorem minC_says : SaysC c (fun xs H Q => ∃ i j, xs = [.int i, .int j] ∧ Q (.int (if j < i then j else i)) H) (mmC false) := by
  intro p σ M T H M2 H2 ρ2 as vs xs Q E q r h
  unfold mmC at h
  split at h
  · obtain ⟨v, u, as1, as2, rfl, r1, r2, rfl⟩ := r.two
    refine ⟨_, _, by rw [r1.int, r2.int], ?_⟩
    simp only [Bool.false_eq_true, if_false, decide_eq_true_eq] at h
    exact h _ H2 M2 [] q.drop (.v (.int _))
  · exact h.elim
end
end VS
namespace VS
open PySem PySem.Spec PyProof.Rows
open L2 (V Hp Cx WX)
/-- .. in a def's body -/
theorem pyD {P : Program} {K : PySem.W.Frag} {mg : Str → Option Value} {N ps : List Str} {qual : Str} {sc : Scope} {f : Addr} {cd : Value} {A : Around} {outer : List Env} {s : Shared} {k : Nat}
    (y : PyK P K mg) (S : L2.FnScope N ps sc) (hk : 32 ≤ k) (hr : L2.Room k (A.deeper (envOfC qual sc s.heap.objs.size f cd))) : PyA P K mg (A.deeper (envOfC qual sc s.heap.objs.size f cd)) (envOfC qual sc s.heap.objs.size f cd :: outer) := by
  refine ⟨y, ?_, _, _, rfl, S.gen, S.co, rfl, rfl⟩
  have := hr.dp
  show (A.deeper (envOfC qual sc s.heap.objs.size f cd)).depth + 100 < recursionLimit
  omega
theorem u128 {k : Nat} {A : Around} (h : L2.Room k A) : A.units + 128 < cLine := by have := h.un; omega
theorem ej_ty {X : Cx} {c : Fr} {W : WX} {x : Str} {n : String} {pos : Pos} (hg : L2.Gl X x) (hm : X.mg x = none) (hv : bootBuiltins x = some (.type n)) (hn : x ≠ "__name__" := by decide) (hd : (x == ("__debug__" : Str)) = false := by decide) : EJ X c W true (.Name x pos) (cE (.ty n)) :=
  ⟨fun ρ K K' E E' hk _ h => hk _ _ h, PE.imp (L2.pe_bltn (v := .ty n) hg hm hv rfl hn hd) fun σ H Q ⟨ρ, M, T, s, h⟩ => h _ H M [] (Post.same s) (.v (.ty n))⟩
end VS
namespace VS
theorem nm {m : List Bool} {i : Nat} (h : (m[i]? == some true) = false) : m[i]? ≠ some true := fun e => by rw [e] at h; simp at h
end VS
set_option Elab.async false
set_option linter.all false
set_option maxRecDepth 100000
set_option maxHeartbeats 4000000
/-! VS10: what a loop walks; for. Own work. -/
namespace VS
open PySem PySem.Spec PyProof.Rows
open L2 (V Hp HO upd SqL SqT Rd Cx TE TT TA TS TG TGs TI It VK XK WX PE PT PA PS PSs PG PGs PI OpR RelV CallR Sp FnOk atI)
/-- J walks ds from (M, T, H) on, whatever happens to what is owned -/
def IT (c : Fr) (M : Addr → Prop) (T : List Addr) (H : Hp) (J : It) (ds : List D) : Prop := ∀ σ' M' H' ρ', Post c false σ' M T H M' T H' ρ' → ∀ i : Nat,
  (∀ d, ds[i]? = some d → J.go i H' ∧ ∀ x H'', J.yld i H' x H'' → Ext H' H'' ∧ Rep c.g c.Z M' H'' x d) ∧ (ds[i]? = none → J.stop i H')
abbrev IS := Rho → (List D → Rho → Prop) → (Exc → Rho → Prop) → Prop
def MonoI (f : IS) : Prop := ∀ ρ K K' E E', (∀ x ρ', K x ρ' → K' x ρ') → (∀ x ρ', E x ρ' → E' x ρ') → f ρ K E → f ρ K' E'
def rdI (c : Fr) (W : WX) (p : Bool) (f : IS) : TI := fun σ H R => ∃ ρ M T, SR c M T σ H ρ ∧
  f ρ (fun ds ρ' => ∀ J H' M', Post c p σ M T H M' T H' ρ' → IT c M' T H' J ds → R J H')
    (fun x ρ' => ∀ cls dd H' M', Post c false σ M T H M' T H' ρ' → XRep c M' H' cls dd x → W cls dd σ H')
structure IJ (X : Cx) (c : Fr) (W : WX) (p : Bool) (tg e : Expr) (f : IS) : Prop where
  mono : MonoI f
  run : PI X tg e (rdI c W p f)
theorem PI.imp {X : Cx} {tg e : Expr} {t t' : TI} (h : PI X tg e t) (i : ∀ σ H Q, t' σ H Q → t σ H Q) : PI X tg e t' := ⟨fun pins s σ H Q I q => h.run pins s σ H Q I (i σ H Q q)⟩
/-- for -/
def loopS (g : GS) (f : SS) : List D → SS
  | [] => fun ρ k => k.nx ρ
  | d :: ds => fun ρ k => g (.v d) ρ (fun ρ1 => f ρ1 (k.loop fun ρ2 => loopS g f ds ρ2 k))
def forS (it : IS) (g : GS) (f : SS) : SS := fun ρ k => it ρ (fun ds ρ1 => loopS g f ds ρ1 k) k.ex
section
variable {X : Cx} {c : Fr} {W : WX} {p p1 p2 : Bool} {M M1 M' M2 : Addr → Prop} {T T' as as1 as2 : List Addr} {σ σ1 : L2.St} {H H1 H' H2 : Hp} {ρ ρ1 ρ' ρ2 : Rho}
theorem loopS_mono {g : GS} {f : SS} (hg : MonoG g) (hf : MonoS f) : ∀ ds, MonoS (loopS g f ds)
  | [] => fun ρ k k' l h => l.1 _ h
  | d :: ds => fun ρ k k' l h => hg _ _ _ _ (fun ρ1 h => hf _ (k.loop fun ρ2 => loopS g f ds ρ2 k) (k'.loop fun ρ2 => loopS g f ds ρ2 k') ⟨fun ρ2 h => loopS_mono hg hf ds _ _ _ l h, l.2.1, l.2.2.1, l.1, fun ρ2 h => loopS_mono hg hf ds _ _ _ l h⟩ h) h
theorem sj_for {tg iter : Expr} {body : List Stmt} {it : IS} {g : GS} {f : SS} {pos : Pos} (hp : PassesOwn (model X.prog X.w) X.A X.env X.xe) (hc : X.calm = true) (hi : IJ X c W p tg iter it) (hg : GJ X c tg g) (hb : SJs X c W body f)
    (hs : ∀ x, foldedSetIterable iter X.env x = pure x := by intro _; rfl) : SJ X c W (.For tg iter body [] pos) (forS it g f) := by
  refine ⟨fun ρ k k' l q => hi.mono _ _ _ _ _ (fun ds ρ1 q => loopS_mono hg.mono hb.mono ds _ _ _ l q) (fun _ _ => l.2.2.1 _ _) q, PS.imp (L2.ps_for hp hc hi.run hg.run hb.run hs) ?_⟩
  rintro D σ H ⟨ρ, M, T, s, k⟩
  refine ⟨ρ, M, T, s, hi.mono _ _ _ _ _ (fun ds ρ1 k J H1 M1 q1 jt => ?_) (fun x ρ' k => exc_le x ρ' k) k⟩
  refine ⟨fun i m σ2 H2 => ∃ ρ2 M2, Post c false σ2 M1 T H1 M2 T H2 ρ2 ∧ m = ds.length - i ∧ i ≤ ds.length ∧ loopS g f (ds.drop i) ρ2 (skOf c W D M2 T H2), ⟨ds.length, ρ1, M1, Post.refl q1.sr, by simp, Nat.zero_le _, ?_⟩, ?_⟩
  · rw [List.drop_zero]; exact loopS_mono hg.mono hb.mono ds _ _ _ (skOf_after q1) k
  · rintro i m σ2 H2 ⟨ρ2, M2, q2, rfl, hi', k⟩
    obtain ⟨it1, it2⟩ := jt σ2 M2 H2 ρ2 q2 i
    cases e : ds[i]? with
    | none =>
      refine .inl ⟨it2 e, ?_⟩
      have hd : ds.drop i = [] := by rw [List.drop_eq_nil_iff]; exact List.getElem?_eq_none_iff.mp e
      rw [hd] at k
      exact k σ2 H2 M2 (Post.refl q2.sr)
    | some d =>
      obtain ⟨go, yl⟩ := it1 d e
      obtain ⟨hlt, ed⟩ := List.getElem?_eq_some_iff.mp e
      have hd : ds.drop i = d :: ds.drop (i + 1) := by rw [List.drop_eq_getElem_cons hlt, ed]
      rw [hd] at k
      refine .inr ⟨go, fun σ3 H3 => ∃ ρ3 M3, Post c false σ3 M1 T H1 M3 T H3 ρ3 ∧ loopS g f (ds.drop (i + 1)) ρ3 (skOf c W D M3 T H3), fun σ3 H3 ⟨ρ3, M3, q3, k3⟩ => ⟨ds.length - (i + 1), by omega, ρ3, M3, q3, rfl, hlt, k3⟩, fun x H' y => ?_⟩
      obtain ⟨x2, rx⟩ := yl x H' y
      refine ⟨ρ2, M2, T, .v d, [], q2.sr.ext x2, .v rx, hg.mono _ _ _ _ (fun ρ3 k σ3 M3 s3 hM => ?_) k⟩
      have q3 : Post c false σ3 M2 T H2 M3 T H' ρ3 := ⟨s3, fun b o eb _ => x2 b o eb, fun a h => .inl (hM a h), fun e => nomatch e⟩
      refine ⟨ρ3, M3, T, s3, hb.mono _ ((skOf c W D M2 T H2).loop fun ρ4 => loopS g f (ds.drop (i + 1)) ρ4 (skOf c W D M2 T H2)) _ ⟨fun ρ4 k σ4 H4 M4 q4 => ?_, fun x ρ4 k => (skOf_after (W := W) (De := D) q3).2.1 x ρ4 k, fun x ρ4 k => (skOf_after (W := W) (De := D) q3).2.2.1 x ρ4 k, fun ρ4 k => (skOf_after (W := W) (De := D) q3).1 ρ4 k, fun ρ4 k σ4 H4 M4 q4 => ?_⟩ k⟩
      · have q34 := q3.trans q4 fun _ z => z
        exact ⟨ρ4, M4, q2.trans q34 fun _ z => z, loopS_mono hg.mono hb.mono _ _ _ _ (skOf_after q34) k⟩
      · have q34 := q3.trans q4 fun _ z => z
        exact ⟨ρ4, M4, q2.trans q34 fun _ z => z, loopS_mono hg.mono hb.mono _ _ _ _ (skOf_after q34) k⟩
/-! ### lists, tuples -/
theorem IT.list {a : Addr} {st : Bool} {ds : List D} (s : SR c M T σ H ρ) (r : Rep c.g c.Z M H (.ref a) (.lst st ds)) : IT c M T H (L2.Itl c.g.K a) ds := by
  intro σ' M' H' ρ' q i
  have r' := r.moved (q.mv s)
  cases r' with
  | lst l rs =>
    rename_i vs
    refine ⟨fun d e => ?_, fun e => ⟨vs, l.sq, by rw [rs.length]; exact List.getElem?_eq_none_iff.mp e⟩⟩
    obtain ⟨v, h1, h2⟩ := rs.get e
    refine ⟨⟨vs, v, l.sq, h1⟩, fun x H'' y => ?_⟩
    obtain ⟨rfl, y⟩ := y
    have := y vs l.sq
    rw [h1] at this; cases this
    exact ⟨Ext.refl _, h2⟩
theorem IT.tup {a : Addr} {ds : List D} (s : SR c M T σ H ρ) (r : Rep c.g c.Z M H (.ref a) (.tup ds)) : IT c M T H (L2.Itt c.g.K a) ds := by
  intro σ' M' H' ρ' q i
  have r' := r.moved (q.mv s)
  cases r' with
  | tup l rs =>
    rename_i vs
    refine ⟨fun d e => ?_, fun e => ⟨vs, l, by rw [rs.length]; exact List.getElem?_eq_none_iff.mp e⟩⟩
    obtain ⟨v, h1, h2⟩ := rs.get e
    refine ⟨⟨vs, v, l, h1⟩, fun x H'' y => ?_⟩
    obtain ⟨rfl, y⟩ := y
    have := y vs l
    rw [h1] at this; cases this
    exact ⟨Ext.refl _, h2⟩
/-- a list that is looked at no more: its items -/
def stL : EV → Option (List D)
  | .v (.lst _ ds) => some ds
  | .m (.l ds) => some ds
  | _ => none
theorem VRg.stL {v : V} {x : EV} {ds : List D} (q : Post c p σ M T H M' (as ++ T) H' ρ') (r : VR c M' H' v x as) (e : stL x = some ds) : ∃ a st M2, v = .ref a ∧ Post c p σ M T H M2 T H' ρ' ∧ Rep c.g c.Z M2 H' (.ref a) (.lst st ds) := by
  cases r with
  | v r =>
    cases r with
    | lst l r => cases e; exact ⟨_, _, M', rfl, q, .lst l r⟩
    | _ => cases e
  | b _ _ => cases e
  | m r =>
    cases r with
    | l h r =>
      cases e
      obtain ⟨q2, r2⟩ := q.frz (.l h r) rfl
      exact ⟨_, _, _, rfl, q2, r2⟩
    | _ => cases e
def itL (f : ES) : IS := fun ρ K E => f ρ (fun x ρ' => match stL x with
  | some ds => K ds ρ'
  | none => False) E
def itT (f : ES) : IS := fun ρ K E => f ρ (fun x ρ' => match asT x with
  | some ds => K ds ρ'
  | none => False) E
/-! ### ranges -/
def rngD (lo : Int) (n : Nat) : List D := (List.range n).map fun i => .int (lo + (i : Nat))
theorem IT.range {lo : Int} {n : Nat} : IT c M T H (L2.Itr lo n) (rngD lo n) := by
  intro σ' M' H' ρ' q i
  have hl : (rngD lo n).length = n := by unfold rngD; rw [List.length_map, List.length_range]
  refine ⟨fun d e => ?_, fun e => by have := List.getElem?_eq_none_iff.mp e; rw [hl] at this; exact this⟩
  obtain ⟨hi, ed⟩ := List.getElem?_eq_some_iff.mp e
  rw [hl] at hi
  have e2 : (rngD lo n)[i]? = some (.int (lo + (i : Nat))) := by unfold rngD; rw [List.getElem?_map, List.getElem?_range hi]; rfl
  rw [e2] at e; cases e
  refine ⟨hi, fun x H'' y => ?_⟩
  obtain ⟨rfl, rfl⟩ := y
  exact ⟨Ext.refl _, .int _⟩
def itR1 (g : AS) : IS := fun ρ K E => g ρ (fun xs ρ' => match xs with
  | [.v (.int j)] => (-(2 ^ 62) ≤ j ∧ j < 2 ^ 62) ∧ K (rngD 0 j.toNat) ρ'
  | _ => False) E
theorem ij_range1 {tg a : Expr} {g : AS} {pp pos : Pos} (hg : L2.Gl X "range") (hm : X.mg "range" = none) (ha : AJ X c W p [a] g) (hs : starEach [a] X.env = [(false, eval a X.env)] := by rfl) : IJ X c W p tg (.Call (.Name "range" pp) [a] [] pos) (itR1 g) := by
  refine ⟨fun ρ K K' E E' hk he q => ha.mono _ _ _ _ _ (fun xs ρ' q => by
    split at q
    · exact ⟨q.1, hk _ _ q.2⟩
    · exact q) he q, PI.imp (L2.pi_range1 hg hm ha.run hs) ?_⟩
  rintro σ H R ⟨ρ, M, T, s, k⟩
  refine ⟨ρ, M, T, s, ha.mono _ _ _ _ _ (fun xs ρ' k vs H' M' as q r => ?_) (fun _ _ h => h) k⟩
  split at k
  · obtain ⟨v, rfl, r1⟩ := r.one
    exact ⟨_, by rw [r1.int], k.1.1, k.1.2, k.2 _ H' M' q.drop .range⟩
  · exact k.elim
def itR2 (g : AS) : IS := fun ρ K E => g ρ (fun xs ρ' => match xs with
  | [.v (.int i), .v (.int j)] => (-(2 ^ 62) ≤ i ∧ i < 2 ^ 62 ∧ -(2 ^ 62) ≤ j ∧ j < 2 ^ 62) ∧ K (rngD i (j - i).toNat) ρ'
  | _ => False) E
/-! ### enumerate, zip, reversed of lists -/
def numd : Nat → List D → List D
  | _, [] => []
  | i, d :: ds => .tup [.int (i : Nat), d] :: numd (i + 1) ds
theorem numd_get : ∀ (ds : List D) (k i : Nat), (numd k ds)[i]? = (ds[i]?).map fun d => .tup [.int ((k + i : Nat) : Int), d]
  | [], _, _ => by simp [numd]
  | d :: ds, k, 0 => by simp [numd]
  | d :: ds, k, i + 1 => by
    have := numd_get ds (k + 1) i
    have e : k + 1 + i = k + (i + 1) := by omega
    rw [e] at this
    simpa [numd] using this
theorem IT.enum {a : Addr} {st : Bool} {ds : List D} (s : SR c M T σ H ρ) (r : Rep c.g c.Z M H (.ref a) (.lst st ds)) : IT c M T H (L2.Ite c.g.K a) (numd 0 ds) := by
  intro σ' M' H' ρ' q i
  have r' := r.moved (q.mv s)
  cases r' with
  | lst l rs =>
    rename_i vs
    have hg := numd_get ds 0 i
    refine ⟨fun d e => ?_, fun e => ⟨vs, l.sq, ?_⟩⟩
    · cases e2 : ds[i]? with
      | none => rw [hg, e2] at e; cases e
      | some d0 =>
        rw [hg, e2] at e
        simp only [Option.map_some, Option.some.injEq, Nat.zero_add] at e
        obtain ⟨v, h1, h2⟩ := rs.get e2
        refine ⟨⟨vs, v, l.sq, h1⟩, fun x H'' y => ?_⟩
        obtain ⟨T', x', rfl, hT, rfl, y⟩ := y
        have := y vs l.sq
        rw [h1] at this; cases this
        refine ⟨Ext.new hT, ?_⟩
        rw [← e]
        exact .tup (.inl (.inl L2.upd_same)) (.cons (.int _) (.cons (h2.ext (Ext.new hT)) .nil))
    · cases e2 : ds[i]? with
      | none => rw [rs.length]; exact List.getElem?_eq_none_iff.mp e2
      | some d0 => rw [hg, e2] at e; cases e
def itE (g : AS) : IS := fun ρ K E => g ρ (fun xs ρ' => match xs with
  | [x] => (match stL x with
    | some ds => K (numd 0 ds) ρ'
    | none => False)
  | _ => False) E
theorem ij_enum {a : Expr} {g : AS} {pp pos tpos : Pos} {elts : List Expr} {kk : Nat} (hK : X.K = c.g.K) (hg : L2.Gl X "enumerate") (hm : X.mg "enumerate" = none) (ha : AJ X c W p [a] g) (hs : starEach [a] X.env = [(false, eval a X.env)] := by rfl) : IJ X c W p (.Tuple elts kk tpos) (.Call (.Name "enumerate" pp) [a] [] pos) (itE g) := by
  refine ⟨fun ρ K K' E E' hk he q => ha.mono _ _ _ _ _ (fun xs ρ' q => by
    split at q
    · split at q
      · exact hk _ _ q
      · exact q
    · exact q) he q, PI.imp (L2.pi_enum hg hm ha.run hs) ?_⟩
  rintro σ H R ⟨ρ, M, T, s, k⟩
  refine ⟨ρ, M, T, s, ha.mono _ _ _ _ _ (fun xs ρ' k vs H' M' as q r => ?_) (fun _ _ h => h) k⟩
  split at k
  · split at k
    · rename_i ds e
      obtain ⟨v, rfl, r1⟩ := r.one
      obtain ⟨a, st, M2, rfl, q2, r2⟩ := VRg.stL q r1 e
      cases r2 with
      | lst l rs => exact ⟨a, _, rfl, hK ▸ l.sq, by rw [hK]; exact k _ H' M2 q2 (.enum q2.sr (.lst l rs))⟩
    · exact k.elim
  · exact k.elim
def zipd : List D → List D → List D
  | d :: ds, e :: es => .tup [d, e] :: zipd ds es
  | _, _ => []
theorem zipd_get : ∀ (ds es : List D) (i : Nat), (zipd ds es)[i]? = (ds[i]?).bind fun d => (es[i]?).map fun e => .tup [d, e]
  | [], es, i => by simp [zipd]
  | d :: ds, [], i => by simp [zipd]
  | d :: ds, e :: es, 0 => by simp [zipd]
  | d :: ds, e :: es, i + 1 => by simpa [zipd] using zipd_get ds es i
theorem IT.zip {a b : Addr} {st st2 : Bool} {ds es : List D} (s : SR c M T σ H ρ) (r : Rep c.g c.Z M H (.ref a) (.lst st ds)) (r2 : Rep c.g c.Z M H (.ref b) (.lst st2 es)) : IT c M T H (L2.Itz c.g.K a b) (zipd ds es) := by
  intro σ' M' H' ρ' q i
  have r' := r.moved (q.mv s)
  have r2' := r2.moved (q.mv s)
  cases r' with
  | lst l rs =>
    cases r2' with
    | lst l2 rs2 =>
      rename_i vs us
      have hg := zipd_get ds es i
      refine ⟨fun d e => ?_, fun e => ⟨vs, us, l.sq, l2.sq, ?_⟩⟩
      · cases e1 : ds[i]? with
        | none => rw [hg, e1] at e; cases e
        | some d1 =>
          cases e2 : es[i]? with
          | none => rw [hg, e1, e2] at e; cases e
          | some d2 =>
            rw [hg, e1, e2] at e
            simp only [Option.bind_some, Option.map_some, Option.some.injEq] at e
            obtain ⟨v, h1, h2⟩ := rs.get e1
            obtain ⟨u, h3, h4⟩ := rs2.get e2
            refine ⟨⟨vs, us, v, u, l.sq, l2.sq, h1, h3⟩, fun x H'' y => ?_⟩
            obtain ⟨T', x', y', rfl, hT, rfl, y1, y2⟩ := y
            have z1 := y1 vs l.sq
            have z2 := y2 us l2.sq
            rw [h1] at z1; cases z1
            rw [h3] at z2; cases z2
            refine ⟨Ext.new hT, ?_⟩
            rw [← e]
            exact .tup (.inl (.inl L2.upd_same)) (.cons (h2.ext (Ext.new hT)) (.cons (h4.ext (Ext.new hT)) .nil))
      · cases e1 : ds[i]? with
        | none => exact .inl (by rw [rs.length]; exact List.getElem?_eq_none_iff.mp e1)
        | some d1 =>
          cases e2 : es[i]? with
          | none => exact .inr (by rw [rs2.length]; exact List.getElem?_eq_none_iff.mp e2)
          | some d2 => rw [hg, e1, e2] at e; cases e
/-- both lists shared -/
def shL : EV → Option (List D)
  | .v (.lst _ ds) => some ds
  | _ => none
def itZ (g : AS) : IS := fun ρ K E => g ρ (fun xs ρ' => match xs with
  | [x, y] => (match shL x, shL y with
    | some ds, some es => K (zipd ds es) ρ'
    | _, _ => False)
  | _ => False) E
theorem IT.rev {a : Addr} {st : Bool} {ds : List D} {n : Nat} (s : SR c M T σ H ρ) (r : Rep c.g c.Z M H (.ref a) (.lst st ds)) (hn : n = ds.length) : IT c M T H (L2.Itv c.g.K a n) ds.reverse := by
  intro σ' M' H' ρ' q i
  have r' := r.moved (q.mv s)
  cases r' with
  | lst l rs =>
    rename_i vs
    refine ⟨fun d e => ?_, fun e => by have := List.getElem?_eq_none_iff.mp e; rw [List.length_reverse] at this; show n ≤ i; omega⟩
    obtain ⟨hi, _⟩ := List.getElem?_eq_some_iff.mp e
    rw [List.length_reverse] at hi
    rw [List.getElem?_reverse hi] at e
    obtain ⟨v, h1, h2⟩ := rs.get e
    rw [← hn] at h1
    refine ⟨⟨by omega, vs, v, l.sq, h1⟩, fun x H'' y => ?_⟩
    obtain ⟨rfl, y⟩ := y
    have := y vs l.sq
    rw [h1] at this; cases this
    exact ⟨Ext.refl _, h2⟩
def itV (g : AS) : IS := fun ρ K E => g ρ (fun xs ρ' => match xs with
  | [x] => (match stL x with
    | some ds => K ds.reverse ρ'
    | none => False)
  | _ => False) E
end
end VS
set_option Elab.async false
set_option linter.all false
set_option maxRecDepth 100000
set_option maxHeartbeats 4000000
/-! VS11: changes of a list that a slot owns; calls of defs that change what a slot owns. Own work. -/
namespace VS
open PySem PySem.Spec PyProof.Rows
open L2 (V Hp HO upd SqL SqT Rd Cx TE TT TA TS TG TGs TI It VK XK WX PE PT PA PS PSs PG PGs PI OpR RelV CallR Sp FnOk atI MtR)
section
variable {X : Cx} {c : Fr} {W : WX} {p p1 p2 : Bool} {M M1 M' M2 : Addr → Prop} {T T' as as1 as2 : List Addr} {σ σ1 : L2.St} {H H1 H' H2 : Hp} {ρ ρ1 ρ' ρ2 : Rho}
/-- a list that the slot i owns, and what comes of changing it -/
theorem SR.lst {i : Nat} {ds : List D} (s : SR c M T σ H ρ) (e : ρ[i]? = some (.l ds)) : ∃ a vs, σ[i]? = some (some (.ref a)) ∧ H a = some (.lst vs) ∧ Reps c.g c.Z M H vs ds ∧ M a ∧
    ∀ vs' ds', Reps c.g c.Z M H vs' ds' → Post c false σ M T H M T (upd H a (.lst vs')) (ρ.set i (.l ds')) := by
  obtain ⟨Ms, r, nd, al⟩ := s.slots
  obtain ⟨v, as, Ms', h1, h2, h3, h4, h5, h6⟩ := r.out e (by simp)
  obtain ⟨k1, k2, k3⟩ := h6 (List.nodup_append.mp nd).1
  cases h2 with
  | @l a vs _ hH rs =>
  have hMa : M a := al a (List.mem_append_left _ (h4 a (by simp)))
  refine ⟨a, vs, h1, hH, rs, hMa, fun vs' ds' rs' => ?_⟩
  have mv : Moved (fun b => b = a) M M H (upd H a (.lst vs')) := ⟨fun b o eb hb => by rw [L2.upd_ne hb]; exact eb, fun b hb => by rw [hb]; exact .inl ⟨_, hH⟩, fun b hb => by rw [hb]; exact hMa, fun b hb => .inl hb⟩
  have r3 := h3.moved mv fun b hb z => k3 a (by simp) (z ▸ hb)
  obtain ⟨Ms2, r4, m2, n2⟩ := RepS.put (.l (L2.upd_same) (rs'.moved mv)) r3 (i := i) (by rw [List.length_set]; exact (List.getElem?_eq_some_iff.mp e).1)
  rw [List.set_set, set_get h1] at r4
  have hsub : ∀ b ∈ Ms2, b ∈ Ms := fun b hb => by
    rcases m2 b hb with z | z
    · exact h5 b z
    · have : b = a := by simpa using z
      rw [this]; exact h4 a (by simp)
  have ty : ∀ b, M b → Typed (upd H a (.lst vs')) b := fun b hb => by
    by_cases z : b = a
    · rw [z]; exact .inl ⟨_, L2.upd_same⟩
    · rcases s.ty b hb with ⟨_, q⟩ | ⟨_, _, _, q⟩ | ⟨_, q⟩
      · exact .inl ⟨_, by rw [L2.upd_ne z]; exact q⟩
      · exact .inr (.inl ⟨_, _, _, by rw [L2.upd_ne z]; exact q⟩)
      · exact .inr (.inr ⟨_, by rw [L2.upd_ne z]; exact q⟩)
  obtain ⟨n1, n3, n4⟩ := List.nodup_append.mp nd
  have haT : a ∉ T := fun z => n4 a (h4 a (by simp)) a z rfl
  refine ⟨⟨⟨Ms2, r4, List.nodup_append.mpr ⟨n2 k2 (by simp) k3, n3, fun b hb d hd => n4 b (hsub b hb) d hd⟩, fun b hb => ?_⟩, ty, s.src, fun b o eb hb => ?_, s.pin, s.ln⟩, fun b o eb hb => ?_, fun b hb => .inl hb, fun e => nomatch e⟩
  · rcases List.mem_append.mp hb with z | z
    · exact al b (List.mem_append_left _ (hsub b z))
    · exact al b (List.mem_append_right _ z)
  · by_cases z : b = a
    · rcases s.src a hMa with q | q
      · exact absurd (z ▸ q) hb
      · rw [z] at eb; rw [q] at eb; cases eb
    · rw [L2.upd_ne z]; exact s.keep b o eb hb
  · have z : b ≠ a := fun z => haT (z ▸ hb (z ▸ hMa))
    rw [L2.upd_ne z]; exact eb
/-- shared from here on -/
def evD : EV → Option D
  | .v d => some d
  | .m s => frSl s
  | _ => none
theorem VRg.evD {v : V} {x : EV} {d : D} (q : Post c p σ M T H M' (as ++ T') H' ρ') (r : VR c M' H' v x as) (e : evD x = some d) :
    ∃ M2, Post c p σ M T H M2 T' H' ρ' ∧ Rep c.g c.Z M2 H' v d ∧ (∀ a, M2 a → M' a) ∧ ∀ a, M' a → a ∉ as → M2 a := by
  cases r with
  | v r => cases e; exact ⟨M', q, r, fun _ h => h, fun _ h _ => h⟩
  | b _ _ => cases e
  | m r =>
    refine ⟨fun a => M' a ∧ a ∉ as, ?_, ?_, fun a h => h.1, fun a h n => ⟨h, n⟩⟩
    · obtain ⟨Ms, rs, nd, al⟩ := q.sr.slots
      obtain ⟨n1, n2, n3⟩ := List.nodup_append.mp nd
      obtain ⟨m1, m2, m3⟩ := List.nodup_append.mp n2
      refine ⟨⟨⟨Ms, rs.re (fun _ _ n z => n z.1) (fun _ _ _ z => z), List.nodup_append.mpr ⟨n1, m2, fun a ha b hb => n3 a ha b (List.mem_append_right _ hb)⟩, fun a ha => ?_⟩, fun a h => q.sr.ty a h.1, fun a h => q.sr.src a h.1, q.sr.keep, q.sr.pin, q.sr.ln⟩, q.keep, fun a h => q.new a h.1, q.pu⟩
      rcases List.mem_append.mp ha with z | z
      · exact ⟨al a (List.mem_append_left _ z), fun y => n3 a z a (List.mem_append_left _ y) rfl⟩
      · exact ⟨al a (List.mem_append_right _ (List.mem_append_right _ z)), fun y => m3 a y a z rfl⟩
    · refine (r.re (M' := fun a => M' a ∧ a ∉ as) (fun _ _ n z => n z.1) (fun _ _ _ z => z)).freeze e fun a ha => ⟨fun z => z.2 ha, ?_⟩
      obtain ⟨Ms, _, _, al⟩ := q.sr.slots
      exact q.sr.noZ (al a (List.mem_append_right _ (List.mem_append_left _ ha)))
/-! ### methods of a list that a slot owns -/
/-- name.method(..): R tells, of the arguments and the list, what is yielded and what becomes of the list -/
abbrev LR := List EV → List D → (EV → List D → Prop) → Prop
def methL (i : Nat) (R : LR) (g : AS) : ES := fun ρ K E => (∃ ds, ρ[i]? = some (.l ds)) ∧ g ρ (fun xs ρ' => match ρ'[i]? with
  | some (.l ds) => R xs ds (fun x ds' => K x (ρ'.set i (.l ds')))
  | _ => False) E
def MonoL (R : LR) : Prop := ∀ xs ds K K', (∀ x ds', K x ds' → K' x ds') → R xs ds K → R xs ds K'
/-- the reading r does what R says, from a state -/
def SaysL (c : Fr) (r : V → List V → Hp → VK → Prop) (R : LR) : Prop := ∀ σ (M : Addr → Prop) T H M1 as H1 ρ1 i ds vs xs Q, Post c false σ M T H M1 (as ++ T) H1 ρ1 → ρ1[i]? = some (.l ds) → VRs c M1 H1 vs xs as →
  R xs ds (fun x ds' => ∀ v H' M' as', Post c false σ M T H M' (as' ++ T) H' (ρ1.set i (.l ds')) → VR c M' H' v x as' → Q v H') → ∀ a, σ[i]? = some (some (.ref a)) → r (.ref a) vs H1 Q
theorem methL_mono {i : Nat} {R : LR} {g : AS} (hR : MonoL R) (hg : MonoA g) : Mono (methL i R g) := fun ρ K K' E E' hk he q => ⟨q.1, hg _ _ _ _ _ (fun xs ρ' q => by
  split at q
  · exact hR _ _ _ _ (fun _ _ => hk _ _) q
  · exact q) he q.2⟩
theorem ej_methL {id name : String} {i : Nat} {R : LR} {r : V → List V → Hp → VK → Prop} {o e : Expr} {es : List Expr} {g : AS} {apos cpos : Pos} (hK : X.K = c.g.K) (hR : MonoL R) (hS : SaysL c r R) (slot : Slot "list" name id) (hty : typeOf (.builtin id) = pure (.type "method_descriptor")) (hm : MtR X id r) (ho : PE X o (L2.tVar i)) (ha : AJ X c W p (e :: es) g)
    (hbase : attributeBase o name X.env (eval o X.env) = eval o X.env := by rfl)
    (hfew : ((backTo cpos (starEach (e :: es) X.env)).all (fun x => !x.1) && (backToKw cpos (keywordEach [] X.env)).all (fun x => x.1.isSome)
      && decide ((e :: es).length + ([] : List Keyword).length + (if ([] : List Keyword).isEmpty then 0 else 1) < 30)) = true := by rfl)
    (hline : (apos.endLine == cpos.line) = true := by rfl) (hs : starEach (e :: es) X.env = (false, eval e X.env) :: starEach es X.env := by rfl) (hplain : (backTo cpos (starEach es X.env)).any (·.1) = false := by rfl) :
    EJ X c W false (.Call (.Attribute o name apos) (e :: es) [] cpos) (methL i R g) := by
  refine ⟨methL_mono hR ha.mono, PE.imp (L2.pe_bm PySem.F.plainAttrs_list slot hty hm ho ha.run hbase hfew hline hs hplain) ?_⟩
  rintro σ H Q ⟨ρ, M, T, s, ⟨ds0, e0⟩, k⟩
  obtain ⟨a, vs0, hv, hH, _, _, _⟩ := s.lst e0
  refine ⟨.ref a, hv, .inl ⟨rfl, vs0, .inl (.inl hH)⟩, ρ, M, T, s, ha.mono _ _ _ _ _ (fun xs ρ' k vs H' M' as q r => ?_) (fun _ _ h => h) k⟩
  split at k
  · rename_i ds e1
    exact hS σ M T H M' as H' ρ' i ds vs xs Q q.weak e1 r k a hv
  · exact k.elim
theorem Post.then (q1 : Post c false σ M T H M1 T1 H1 ρ1) (q2 : Post c p σ M1 T1 H1 M2 T2 H2 ρ2) (ht : ∀ x ∈ T, x ∈ T1) : Post c false σ M T H M2 T2 H2 ρ2 := (q1.trans q2 ht).weak
def appL : LR := fun xs ds K => match xs with
  | [x] => (match evD x with
    | some d => ds.length < 1000000 ∧ K (.v .non) (ds ++ [d])
    | none => False)
  | _ => False
theorem appL_mono : MonoL appL := fun xs ds K K' hk h => by
  unfold appL at h ⊢
  split at h
  · split at h
    · exact ⟨h.1, hk _ _ h.2⟩
    · exact h
  · exact h
theorem lt_line {n : Nat} (h : n < 1000000) : n < sizeLine := Nat.lt_of_lt_of_le h (by decide)
theorem appL_says : SaysL c L2.rAppend appL := by
  intro σ M T H M1 as H1 ρ1 i ds vs xs Q q e1 r h a hv
  unfold appL at h
  split at h
  · split at h
    · rename_i d ed
      obtain ⟨v, rfl, r1⟩ := r.one
      obtain ⟨M2, q2, r2, _, _⟩ := VRg.evD q r1 ed
      obtain ⟨a', vs', hv', hH, rs, hMa, upd'⟩ := q2.sr.lst e1
      rw [hv] at hv'; cases hv'
      refine ⟨a, vs', v, rfl, rfl, hH, by rw [rs.length]; exact lt_line h.1, ?_⟩
      have q3 := upd' (vs' ++ [v]) (ds ++ [d]) (rs.append (.cons r2 .nil))
      exact h.2 _ _ M2 [] (q2.then q3 fun _ z => z) (.v .non)
    · exact h.elim
  · exact h.elim
/-- name.append(e) -/
theorem ej_append {i : Nat} {o e : Expr} {g : AS} {apos cpos : Pos} (hK : X.K = c.g.K) (ho : PE X o (L2.tVar i)) (ha : AJ X c W p [e] g) (hbase : attributeBase o "append" X.env (eval o X.env) = eval o X.env := by rfl)
    (hfew : ((backTo cpos (starEach [e] X.env)).all (fun x => !x.1) && (backToKw cpos (keywordEach [] X.env)).all (fun x => x.1.isSome) && decide ([e].length + ([] : List Keyword).length + (if ([] : List Keyword).isEmpty then 0 else 1) < 30)) = true := by rfl)
    (hline : (apos.endLine == cpos.line) = true := by rfl) (hs : starEach [e] X.env = (false, eval e X.env) :: starEach [] X.env := by rfl) : EJ X c W false (.Call (.Attribute o "append" apos) [e] [] cpos) (methL i appL g) :=
  ej_methL hK appL_mono appL_says PySem.F.slot_list_append PySem.F.type_list_append L2.mt_append ho ha hbase hfew hline hs rfl
def insL : LR := fun xs ds K => match xs with
  | [.v (.int k), x] => (match evD x with
    | some d => (ds.length < 1000000 ∧ 0 ≤ k ∧ k < 2 ^ 62) ∧ K (.v .non) (ds.take k.toNat ++ [d] ++ ds.drop k.toNat)
    | none => False)
  | _ => False
theorem insL_mono : MonoL insL := fun xs ds K K' hk h => by
  unfold insL at h ⊢
  split at h
  · split at h
    · exact ⟨h.1, hk _ _ h.2⟩
    · exact h
  · exact h
def clrL : LR := fun xs _ K => match xs with
  | [] => K (.v .non) []
  | _ => False
def popL : LR := fun xs ds K => match xs with
  | [] => (match ds[ds.length - 1]? with
    | some d => K (.v d) ds.dropLast
    | none => False)
  | _ => False
theorem Reps.dropLast {g : Ge} {Z : Addr → Prop} {vs : List V} {ds : List D} (r : Reps g Z M H vs ds) : Reps g Z M H vs.dropLast ds.dropLast := by
  rw [List.dropLast_eq_take, List.dropLast_eq_take, r.length]
  exact r.take _
theorem insL_says : SaysL c (fun x vs H Q => ∃ (l : Addr) (xs : List V) (i : Int) (y : V), x = .ref l ∧ vs = [.int i, y] ∧ H l = some (.lst xs) ∧ xs.length < sizeLine ∧ 0 ≤ i ∧ i < 2 ^ 63 ∧ Q .non (upd H l (.lst (xs.take i.toNat ++ [y] ++ xs.drop i.toNat)))) insL := by
  intro σ M T H M1 as H1 ρ1 i ds vs xs Q q e1 r h a hv
  unfold insL at h
  split at h
  · split at h
    · rename_i d ed
      obtain ⟨v, u, as1, as2, rfl, r1, r2, rfl⟩ := r.two
      have e0 := r1.int
      have en : as1 = [] := by cases r1; rfl
      subst en
      obtain ⟨M2, q2, rd, _, _⟩ := VRg.evD (by rw [List.append_nil] at q; exact q) r2 ed
      obtain ⟨a', vs', hv', hH, rs, hMa, upd'⟩ := q2.sr.lst e1
      rw [hv] at hv'; cases hv'
      refine ⟨a, vs', _, u, rfl, by rw [e0], hH, by rw [rs.length]; exact lt_line h.1.1, h.1.2.1, by omega, ?_⟩
      exact h.2 _ _ M2 [] (q2.then (upd' _ _ (((rs.take _).append (.cons rd .nil)).append (rs.drop _))) fun _ z => z) (.v .non)
    · exact h.elim
  · exact h.elim
/-- a list that is tracked: a look at an owned one, or a new one -/
def trL : EV → Option (List D)
  | .b ds => some ds
  | .m (.l ds) => some ds
  | _ => none
def extL : LR := fun xs ds K => match xs with
  | [x] => (match trL x with
    | some es => ds.length + es.length ≤ 1000000 ∧ K (.v .non) (ds ++ es)
    | none => False)
  | _ => False
/-! ### name[i] = value, the list owned by the slot -/
def setixS (p2 : Bool) (i : Nat) (f h : ES) : SS := fun ρ k => f ρ (fun x ρ1 => (∃ ds1, ρ1[i]? = some (.l ds1)) ∧ h ρ1 (fun y ρ2 => match evD x, y, ρ2[i]? with
  | some d, .v (.int n), some (.l ds) => (match L2.ixN ds.length n with
    | some j => okB p2 x ∧ k.nx (ρ2.set i (.l (ds.set j d)))
    | none => False)
  | _, _, _ => False) k.ex) k.ex
theorem sj_setix {i : Nat} {o e ix : Expr} {f h : ES} {pos tpos : Pos} (ho : PE X o (L2.tVar i)) (he : EJ X c W p1 e f) (hi : EJ X c W p2 ix h)
    (ha : ∀ v, assign (.Subscript o ix tpos) X.env v = (do
      let ov ← holding [v] (eval o X.env)
      let iv ← holding [v, ov] (eval ix X.env)
      standAt tpos
      holding [v, ov, iv] (setItem ov iv v)
      release [v, ov, iv] []) := by intro _; rfl)
    (hs : swapsWithSole [.Subscript o ix tpos] e pos.line X.env = pure false := by rfl) (hw : swappedStores [.Subscript o ix tpos] e X.env = pure none := by rfl) (h1 : (assignEach [.Subscript o ix tpos] X.env).map (·.2) = [assign (.Subscript o ix tpos) X.env] := by rfl) :
    SJ X c W (.Assign [.Subscript o ix tpos] e pos) (setixS p2 i f h) := by
  refine ⟨fun ρ k k' l q => he.mono _ _ _ _ _ (fun x ρ1 q => ⟨q.1, hi.mono _ _ _ _ _ (fun y ρ2 q => ?_) (fun _ _ => l.2.2.1 _ _) q.2⟩) (fun _ _ => l.2.2.1 _ _) q, PS.imp (L2.ps_asg he.run (L2.pg_sub ho hi.run L2.set_list ha) hs hw h1) ?_⟩
  · split at q
    · split at q
      · exact ⟨q.1, l.1 _ q.2⟩
      · exact q
    · exact q
  · rintro D σ H ⟨ρ, M, T, s, k⟩
    refine ⟨ρ, M, T, s, he.mono _ _ _ _ _ (fun x ρ1 k v H1 M1 as1 q1 r1 => ?_) (fun x ρ' k => exc_le x ρ' k) k⟩
    obtain ⟨⟨ds1, e1⟩, k⟩ := k
    obtain ⟨a, vs1, hv, _, _, _, _⟩ := q1.sr.lst e1
    refine ⟨.ref a, hv, ρ1, M1, as1 ++ T, q1.sr, hi.mono _ _ _ _ _ (fun y ρ2 k u H2 M2 as2 q2 r2 => ?_) (fun x ρ2 k cls dd H2 M2 q2 r2 => k σ cls dd H2 M2 (q1.trans q2 fun x hx => List.mem_append_right _ hx).weak.drop r2) k⟩
    split at k
    · rename_i d n ds ed e2
      split at k
      · rename_i j ej
        have r1' := r1.next q1.sr q2 (fun b hb => List.mem_append_left _ hb) k.1
        have en : as2 = [] := by cases r2; rfl
        subst en
        have q12 : Post c false σ M T H M2 (as1 ++ T) H2 ρ2 := (q1.trans q2 fun x hx => List.mem_append_right _ hx).weak
        obtain ⟨M3, q3, rd, _, _⟩ := VRg.evD q12 r1' ed
        obtain ⟨a', vs', hv', hH, rs, hMa, upd'⟩ := q3.sr.lst e2
        rw [hv] at hv'; cases hv'
        refine ⟨a, vs', n, j, rfl, r2.int, hH, by rw [rs.length]; exact ej, ?_⟩
        exact k.2 σ _ M3 (q3.then (upd' _ _ (Reps.set rd j rs)) fun _ z => z)
      · exact k.elim
    · exact k.elim
end
end VS
set_option Elab.async false
set_option linter.all false
set_option maxRecDepth 100000
set_option maxHeartbeats 4000000
/-! VS12: calls of defs that change what a slot owns. Own work. -/
namespace VS
open PySem PySem.Spec PyProof.Rows
open L2 (V Hp HO upd SqL SqT Rd Cx TE TT TA TS TG TGs TI It VK XK WX PE PT PA PS PSs PG PGs PI OpR RelV CallR Sp FnOk atI MtR)
/-- arguments of which one is the slot i -/
abbrev AIo := Rho → (List EV → List EV → Rho → Prop) → (Exc → Rho → Prop) → Prop
def MonoAI (f : AIo) : Prop := ∀ ρ K K' E E', (∀ x y ρ', K x y ρ' → K' x y ρ') → (∀ x ρ', E x ρ' → E' x ρ') → f ρ K E → f ρ K' E'
def rdAI (c : Fr) (W : WX) (i : Nat) (f : AIo) : TA := fun σ H Q => ∃ ρ M T, SR c M T σ H ρ ∧
  f ρ (fun xs ys ρ' => ∀ vs us v H' M' as, Post c false σ M T H M' (as ++ T) H' ρ' → VRs c M' H' (vs ++ us) (xs ++ ys) as → vs.length = xs.length → σ[i]? = some (some v) → Q (vs ++ v :: us) H')
    (fun x ρ' => ∀ cls dd H' M', Post c false σ M T H M' T H' ρ' → XRep c M' H' cls dd x → W cls dd σ H')
structure AJI (X : Cx) (c : Fr) (W : WX) (i n : Nat) (es : List Expr) (f : AIo) : Prop where
  mono : MonoAI f
  len : ∀ ρ K E, f ρ K E → f ρ (fun xs ys ρ' => xs.length = n ∧ K xs ys ρ') E
  run : PA X es (rdAI c W i f)
def hereA (i : Nat) (g : AS) : AIo := fun ρ K E => (∃ s, ρ[i]? = some s ∧ s ≠ .no) ∧ g ρ (fun ys ρ' => K [] ys ρ') E
def nextA (f : ES) (g : AIo) : AIo := fun ρ K E => f ρ (fun x ρ1 => g ρ1 (fun xs ys ρ2 => okB false x ∧ K (x :: xs) ys ρ2) E) E
/-- nothing looked at -/
def argS : EV → Option D
  | .v d => some d
  | .m s => frSl s
  | _ => none
def argSs : List EV → Option (List D)
  | [] => some []
  | x :: xs => (argS x).bind fun d => (argSs xs).map (d :: ·)
def callI (F : FS) (i : Nat) (f : AIo) : ES := fun ρ K E => f ρ (fun xs ys ρ1 => match argSs xs, argSs ys, ρ1[i]? with
  | some ds, some es, some s => s ≠ .no ∧ F (ds.map .v ++ s :: es.map .v) (fun x ts => match ts with
      | [t] => K x (ρ1.set i t)
      | _ => False) (fun x ts => match ts with
      | [t] => E x (ρ1.set i t)
      | _ => False)
  | _, _, _ => False) E
section
variable {X : Cx} {c : Fr} {W : WX} {p p1 p2 : Bool} {M M1 M' M2 : Addr → Prop} {T T' as as1 as2 : List Addr} {σ σ1 : L2.St} {H H1 H' H2 : Hp} {ρ ρ1 ρ' ρ2 : Rho}
theorem aji_here {i : Nat} {o : Expr} {es : List Expr} {g : AS} (ho : PE X o (L2.tVar i)) (ha : AJ X c W p es g) (hs : starEach (o :: es) X.env = (false, eval o X.env) :: starEach es X.env := by rfl) : AJI X c W i 0 (o :: es) (hereA i g) := by
  refine ⟨fun ρ K K' E E' hk he q => ⟨q.1, ha.mono _ _ _ _ _ (fun ys ρ' q => hk _ _ _ q) he q.2⟩, fun ρ K E q => ⟨q.1, ha.mono _ _ _ _ _ (fun ys ρ' q => ⟨rfl, q⟩) (fun _ _ h => h) q.2⟩, PA.imp (L2.pa_cons ho ha.run hs) ?_⟩
  rintro σ H Q ⟨ρ, M, T, s, ⟨s0, e0, n0⟩, k⟩
  obtain ⟨v, as, hv, _, _⟩ := s.read e0 n0
  exact ⟨v, hv, ρ, M, T, s, ha.mono _ _ _ _ _ (fun ys ρ' k us H' M' as q r => k [] us v H' M' as q.weak r rfl hv) (fun _ _ h => h) k⟩
theorem VRs.argSs {ex : List Addr} : ∀ {vs : List V} {xs : List EV} {as : List Addr} {ds : List D}, VRs c M H vs xs as → argSs xs = some ds → (∀ a ∈ as, ¬ c.Z a ∧ a ∉ ex) → (∀ a ∈ ex, M a) →
    Reps c.g (fun a => c.Z a ∨ (M a ∧ a ∉ as ∧ a ∉ ex)) (fun a => a ∈ ex) H vs ds
  | _, _, _, _, .nil, e, _, _ => by rw [VS.argSs] at e; cases e; exact .nil
  | _, x :: xs, _, _, .cons (as := as1) (bs := as2) r rs, e, hz, hx => by
    rw [VS.argSs] at e
    cases q : argS x with
    | none => rw [q] at e; cases e
    | some d =>
      cases q2 : VS.argSs xs with
      | none => rw [q, q2] at e; cases e
      | some ds =>
        rw [q, q2] at e; cases e
        have rs' := rs.argSs q2 (fun a h => hz a (List.mem_append_left _ h)) hx
        refine .cons ?_ (rs'.re (fun _ _ z => z) fun a _ _ h k => h ?_)
        · cases r with
          | v r => cases q; exact r.re (fun a _ n z => n (hx a z)) fun a _ n z k => k.elim z fun y => n y.1
          | b l r => cases q
          | m r =>
            have r' : RepO c.g (fun a => c.Z a ∨ (M a ∧ a ∉ as2 ++ as1 ∧ a ∉ ex)) (fun a => a ∈ ex) H _ _ as1 := r.re (fun a _ n z => n (hx a z)) fun a _ n z k => k.elim z fun y => n y.1
            exact r'.freeze q fun a ha => ⟨(hz a (List.mem_append_right _ ha)).2, fun k => k.elim (hz a (List.mem_append_right _ ha)).1 fun y => y.2.1 (List.mem_append_right _ ha)⟩
        · rcases k with k | ⟨k1, k2, k3⟩
          · exact .inl k
          · exact .inr ⟨k1, fun y => k2 (List.mem_append_left _ y), k3⟩
theorem VRs.split : ∀ {vs us : List V} {xs ys : List EV} {as : List Addr}, VRs c M H (vs ++ us) (xs ++ ys) as → vs.length = xs.length → ∃ as1 as2, VRs c M H vs xs as1 ∧ VRs c M H us ys as2 ∧ as = as2 ++ as1
  | [], us, [], ys, as, r, _ => ⟨[], as, .nil, r, by simp⟩
  | [], _, _ :: _, _, _, _, h => by simp at h
  | _ :: _, _, [], _, _, _, h => by simp at h
  | v :: vs, us, x :: xs, ys, _, .cons (as := a1) (bs := bs) r rs, h => by
    obtain ⟨b1, b2, r1, r2, e⟩ := rs.split (by simpa using h)
    exact ⟨b1 ++ a1, b2, .cons r r1, r2, by rw [e, List.append_assoc]⟩
theorem RepOs.mid {g : Ge} {Z : Addr → Prop} {v : V} {s : Sl} {as : List Addr} (r : RepO g Z M H v s as) {us : List V} {es : List D} (re : Reps g Z M H us es) : ∀ {vs : List V} {ds : List D}, Reps g Z M H vs ds → RepOs g Z M H (vs ++ v :: us) (ds.map .v ++ s :: es.map .v) as
  | _, _, .nil => by
    have := RepOs.cons r (repOs_v re)
    rw [List.append_nil] at this; exact this
  | _, _, .cons q qs => RepOs.cons (as := []) (.v q) (RepOs.mid r re qs)
theorem pick_one {α : Type} : ∀ (k m : Nat) {l1 l2 : List α} {x : α}, l1.length = k → pick (List.replicate k false ++ true :: List.replicate m false) (l1 ++ x :: l2) = [x]
  | 0, m, [], l2, x, _ => by
    show x :: pick (List.replicate m false) l2 = [x]
    rw [pick_no fun b hb => List.eq_of_mem_replicate hb]
  | 0, _, _ :: _, _, _, h => by simp at h
  | _ + 1, _, [], _, _, h => by simp at h
  | k + 1, m, y :: l1, l2, x, h => by
    show pick (List.replicate k false ++ true :: List.replicate m false) (l1 ++ x :: l2) = [x]
    exact pick_one k m (by simpa using h)
/-- behind a call that changed what the slot i owns -/
theorem Post.callI {i : Nat} {t : Sl} {v : V} {asI ias ras Ms' : List Addr} (q : Post c p σ M T H M1 (as ++ T) H1 ρ1) (hv : σ[i]? = some (some v)) (hi : i < ρ1.length)
    (Ms : List Addr) (nd : (Ms ++ (as ++ T)).Nodup) (al : ∀ a ∈ Ms ++ (as ++ T), M1 a) (hI : ∀ a ∈ asI, a ∈ Ms) (hMs : ∀ a ∈ Ms', a ∈ Ms) (ndI : asI.Nodup ∧ Ms'.Nodup ∧ ∀ a ∈ asI, a ∉ Ms') (rest : RepS c.g c.Z M1 H1 σ (ρ1.set i .no) Ms')
    (keep : ∀ b o, H1 b = some o → b ∉ asI → H2 b = some o) (n2 : (ras ++ ias).Nodup) (new : ∀ a ∈ ras ++ ias, a ∈ asI ∨ H1 a = none) (ty : ∀ a ∈ ras ++ ias, Typed H2 a)
    (rt : RepO c.g c.Z (fun a => (M1 a ∧ a ∉ as ∧ a ∉ asI) ∨ a ∈ ras ++ ias) H2 v t ias) :
    Post c false σ M T H (fun a => (M1 a ∧ a ∉ as ∧ a ∉ asI) ∨ a ∈ ras ++ ias) (ras ++ T) H2 (ρ1.set i t) := by
  obtain ⟨nd1, nd2, nd3⟩ := List.nodup_append.mp nd
  obtain ⟨nd4, nd5, nd6⟩ := List.nodup_append.mp nd2
  have hIM : ∀ a ∈ asI, M1 a := fun a h => al a (List.mem_append_left _ (hI a h))
  have tyI : ∀ a ∈ asI, Typed H1 a := fun a h => q.sr.ty a (hIM a h)
  have r1 : RepS c.g c.Z (fun a => M1 a ∧ a ∉ as) H1 σ (ρ1.set i .no) Ms' := rest.re (fun _ _ n z => n z.1) fun _ _ _ z => z
  have mv : Moved (fun a => a ∈ asI) (fun a => M1 a ∧ a ∉ as) (fun a => (M1 a ∧ a ∉ as ∧ a ∉ asI) ∨ a ∈ ras ++ ias) H1 H2 := by
    refine ⟨fun b o e h => keep b o e h, tyI, fun a h => ⟨hIM a h, fun z => nd3 a (hI a h) a (List.mem_append_left _ z) rfl⟩, fun a h => ?_⟩
    rcases h with h | h
    · exact .inl ⟨h.1, h.2.1⟩
    · rcases new a h with z | z
      · exact .inl ⟨hIM a z, fun y => nd3 a (hI a z) a (List.mem_append_left _ y) rfl⟩
      · exact .inr z
  have r2 := r1.moved mv fun a h z => ndI.2.2 a z h
  obtain ⟨Ms2, r3, m2, k2⟩ := RepS.put rt r2 (i := i) (by rw [List.length_set]; exact hi)
  rw [List.set_set, set_get hv] at r3
  -- what is new or was owned by the slot
  have dj : ∀ a ∈ ras ++ ias, a ∉ Ms' ∧ a ∉ T := fun a h => by
    rcases new a h with z | z
    · exact ⟨ndI.2.2 a z, fun y => nd3 a (hI a z) a (List.mem_append_right _ y) rfl⟩
    · exact ⟨fun y => (q.sr.ty a (al a (List.mem_append_left _ (hMs a y)))).ne z, fun y => (q.sr.ty a (al a (List.mem_append_right _ (List.mem_append_right _ y)))).ne z⟩
  obtain ⟨n3, n4, n5⟩ := List.nodup_append.mp n2
  have nd7 : Ms2.Nodup := k2 ndI.2.1 n4 fun a h => (dj a (List.mem_append_right _ h)).1
  have hMM : ∀ b o, H1 b = some o → b ∉ asI → H2 b = some o := keep
  refine ⟨⟨⟨Ms2, r3, ?_, fun a h => ?_⟩, fun a h => ?_, fun a h => ?_, fun b o e h => ?_, q.sr.pin, q.sr.ln⟩, fun b o e h => ?_, fun a h => ?_, fun e => nomatch e⟩
  · refine List.nodup_append.mpr ⟨nd7, List.nodup_append.mpr ⟨n3, nd5, fun a h b hb e => (dj a (List.mem_append_left _ h)).2 (e ▸ hb)⟩, fun a h b hb e => ?_⟩
    subst e
    rcases List.mem_append.mp hb with z | z
    · rcases m2 a h with y | y
      · exact (dj a (List.mem_append_left _ z)).1 y
      · exact n5 a z a y rfl
    · rcases m2 a h with y | y
      · exact nd3 a (hMs a y) a (List.mem_append_right _ z) rfl
      · exact (dj a (List.mem_append_right _ y)).2 z
  · rcases List.mem_append.mp h with z | z
    · rcases m2 a z with y | y
      · exact .inl ⟨al a (List.mem_append_left _ (hMs a y)), fun w => nd3 a (hMs a y) a (List.mem_append_left _ w) rfl, fun w => ndI.2.2 a w y⟩
      · exact .inr (List.mem_append_right _ y)
    · rcases List.mem_append.mp z with z | z
      · exact .inr (List.mem_append_left _ z)
      · exact .inl ⟨al a (List.mem_append_right _ (List.mem_append_right _ z)), fun w => nd6 a w a z rfl, fun w => nd3 a (hI a w) a (List.mem_append_right _ z) rfl⟩
  · rcases h with h | h
    · rcases q.sr.ty a h.1 with ⟨_, e⟩ | ⟨_, _, _, e⟩ | ⟨_, e⟩
      · exact .inl ⟨_, keep _ _ e h.2.2⟩
      · exact .inr (.inl ⟨_, _, _, keep _ _ e h.2.2⟩)
      · exact .inr (.inr ⟨_, keep _ _ e h.2.2⟩)
    · exact ty a h
  · rcases h with h | h
    · exact q.sr.src a h.1
    · rcases new a h with z | z
      · exact q.sr.src a (hIM a z)
      · by_cases y : a ∈ c.io
        · exact .inl y
        · refine .inr ?_
          cases e : c.H0 a with
          | none => rfl
          | some u => have := q.sr.keep a u e y; rw [z] at this; cases this
  · refine keep b o (q.sr.keep b o e h) fun z => ?_
    rcases q.sr.src b (hIM b z) with y | y
    · exact h y
    · rw [y] at e; cases e
  · refine keep b o (q.keep b o e h) fun z => ?_
    rcases q.new b (hIM b z) with y | y
    · exact nd3 b (hI b z) b (List.mem_append_right _ (h y)) rfl
    · rw [y] at e; cases e
  · rcases h with h | h
    · exact q.new a h.1
    · rcases new a h with z | z
      · exact q.new a (hIM a z)
      · by_cases y : M a
        · exact .inl y
        · refine .inr ?_
          cases e : H a with
          | none => rfl
          | some u => have := q.keep a u e fun w => absurd w y; rw [z] at this; cases this
theorem callI_run {mask : List Bool} {F : FS} {es : List Expr} {f : AIo} {i kk mm : Nat} (hm : mask = List.replicate kk false ++ true :: List.replicate mm false) (hF : MonoF F) (hl : ∀ ss K E, F ss K E → ss.length = mask.length) (ha : AJI X c W i kk es f) :
    ∀ σ H Q, rdE c W false (callI F i f) σ H Q → rdAI c W i f σ H (fun vs H1 => spV c.g mask F vs H1 Q (L2.WE W σ)) := by
  rintro σ H Q ⟨ρ, M, T, s, h⟩
  refine ⟨ρ, M, T, s, ha.mono _ _ _ _ _ (fun xs ys ρ1 k vs us v H1 M1 as q r hlen hv => ?_) (fun _ _ h => h) (ha.len _ _ _ h)⟩
  obtain ⟨hxk, k⟩ := k
  split at k
  · rename_i ds es' s1 e1 e2 e3
    obtain ⟨sn, k⟩ := k
    obtain ⟨Ms, rS, nd, al⟩ := q.sr.slots
    obtain ⟨v', asI, Ms', h1, h2, h3, h4, h5, h6⟩ := rS.out e3 sn
    rw [hv] at h1; cases h1
    have ndI := h6 (List.nodup_append.mp nd).1
    obtain ⟨nd1, nd2, nd3⟩ := List.nodup_append.mp nd
    have hIM : ∀ a ∈ asI, M1 a := fun a h => al a (List.mem_append_left _ (h4 a h))
    have hz : ∀ a ∈ as, ¬ c.Z a ∧ a ∉ asI := fun a h => ⟨q.sr.noZ (al a (List.mem_append_right _ (List.mem_append_left _ h))), fun z => nd3 a (h4 a z) a (List.mem_append_left _ h) rfl⟩
    obtain ⟨b1, b2, r1, r2, rfl⟩ := r.split hlen
    have d1 := r1.argSs (ex := asI) e1 (fun a h => hz a (List.mem_append_right _ h)) hIM
    have d2 := r2.argSs (ex := asI) e2 (fun a h => hz a (List.mem_append_left _ h)) hIM
    have d1' : Reps c.g (fun a => c.Z a ∨ (M1 a ∧ a ∉ b2 ++ b1 ∧ a ∉ asI)) (fun a => a ∈ asI) H1 vs ds := d1.re (fun _ _ z => z) fun a _ _ n k => n (k.imp id fun y => ⟨y.1, fun w => y.2.1 (List.mem_append_right _ w), y.2.2⟩)
    have d2' : Reps c.g (fun a => c.Z a ∨ (M1 a ∧ a ∉ b2 ++ b1 ∧ a ∉ asI)) (fun a => a ∈ asI) H1 us es' := d2.re (fun _ _ z => z) fun a _ _ n k => n (k.imp id fun y => ⟨y.1, fun w => y.2.1 (List.mem_append_left _ w), y.2.2⟩)
    have ds' : RepO c.g (fun a => c.Z a ∨ (M1 a ∧ a ∉ b2 ++ b1 ∧ a ∉ asI)) (fun a => a ∈ asI) H1 v s1 asI := h2.re (fun a _ n z => n (hIM a z)) fun a _ n z k => k.elim z fun y => n y.1
    have hi : i < ρ1.length := (List.getElem?_eq_some_iff.mp e3).1
    refine ⟨_, _, asI, fun a z => ?_, fun a h k => ?_, RepOs.mid ds' d2' d1', ndI.1, hl _ _ _ k, hF _ _ _ _ _ (fun x ts k w H2 ras ias cp rv re => ?_) (fun x ts k cls dd H2 ias cp rx re => ?_) k⟩
    · rcases z with z | z
      · intro e4
        by_cases y : a ∈ c.io
        · exact c.zi a y z
        · cases e5 : c.H0 a with
          | none => exact c.zd a z e5
          | some o => have := q.sr.keep a o e5 y; rw [e4] at this; cases this
      · exact (q.sr.ty a z.1).ne
    · rcases k with k | k
      · exact q.sr.noZ (hIM a h) k
      · exact k.2.2 h
    · split at k
      · rename_i t
        have io := cp.io
        rw [hm, pick_one kk mm (by rw [hlen]; exact hxk)] at io
        cases io with
        | cons rt rn =>
        cases rn
        rename_i ias
        rw [List.append_nil] at cp rv
        have hret : retSl t = true := by have := cp.ret; simpa [retSls] using this
        have rt' : RepO c.g c.Z (fun a => (M1 a ∧ a ∉ b2 ++ b1 ∧ a ∉ asI) ∨ a ∈ ras ++ ias) H2 v t ias := by
          rw [List.append_nil] at rt
          exact rt.back (fun a _ n z y => y.elim (fun y => z (.inr y)) n) (fun a _ n z y => z (.inl y)) hret
        have ty : ∀ a ∈ ras ++ ias, Typed H2 a := fun a h => by
          rcases List.mem_append.mp h with h | h
          · exact rv.typed a h
          · exact rt'.typed a h
        exact k w H2 _ ras (q.callI hv hi Ms nd al h4 h5 ndI h3 cp.keep cp.nd cp.new ty rt') (rv.back (fun a _ n z y => y.elim (fun y => z (.inr y)) n) (fun a _ n z y => z (.inl y)) re)
      · exact k.elim
    · split at k
      · rename_i t
        have io := cp.io
        rw [hm, pick_one kk mm (by rw [hlen]; exact hxk)] at io
        cases io with
        | cons rt rn =>
        cases rn
        rename_i ias
        rw [List.append_nil] at cp rx
        have hret : retSl t = true := by have := cp.ret; simpa [retSls] using this
        have rt' : RepO c.g c.Z (fun a => (M1 a ∧ a ∉ b2 ++ b1 ∧ a ∉ asI) ∨ a ∈ [] ++ ias) H2 v t ias := by
          rw [List.append_nil] at rt
          exact rt.back (fun a _ n z y => y.elim (fun y => z (.inr y)) n) (fun a _ n z y => z (.inl y)) hret
        exact k cls dd H2 _ (q.callI hv hi Ms nd al h4 h5 ndI h3 cp.keep cp.nd cp.new (fun a h => rt'.typed a (by simpa using h)) rt') (rx.back (fun a _ n z y => y.elim (fun y => z (.inr y)) (fun w => n (by simpa using w))) (fun a _ n z y => z (.inl y)) re)
      · exact k.elim
  · exact k.elim
theorem callI_mono {F : FS} {f : AIo} {i : Nat} (hF : MonoF F) (hf : MonoAI f) : Mono (callI F i f) := fun ρ K K' E E' hk he h => hf _ _ _ _ _ (fun xs ys ρ1 h => by
  split at h
  · refine ⟨h.1, hF _ _ _ _ _ (fun x ts h => ?_) (fun x ts h => ?_) h.2⟩
    · split at h
      · exact hk _ _ h
      · exact h
    · split at h
      · exact he _ _ h
      · exact h
  · exact h) he h
/-- f(.., name, ..) of a def that changes the one thing that is handed as a name -/
theorem ej_callI {mask : List Bool} {F : FS} {i j k kk mm : Nat} {ps : List Str} {x : Str} {pp pos : Pos} {e : Expr} {es : List Expr} {f : AIo} (d : Def X.prog X.w c.g.K c.g.mg X.base j x ps mask F) (hm : mask = List.replicate kk false ++ true :: List.replicate mm false)
    (hK : X.K = c.g.K) (hmg : X.mg = c.g.mg) (hr : L2.Room k X.A) (hjk : j ≤ k) (hg : L2.Gl X x) (tk : L2.Takes X W)
    (ha : AJI X c W i kk (e :: es) f) (hdb : (x == ("__debug__" : Str)) = false := by decide) (he : starEach (e :: es) X.env = (false, eval e X.env) :: starEach es X.env := by rfl) (hpl : (backTo pos (starEach es X.env)).any (·.1) = false := by rfl) :
    EJ X c W false (.Call (.Name x pp) (e :: es) [] pos) (callI F i f) := by
  obtain ⟨g, fd, G, h1, h2, h3⟩ := d.ex
  have G' : FnOk X.prog X.w X.K X.mg X.base (L2.CX X.prog X.w) j g fd ps (spV c.g mask F) := by rw [hK, hmg]; exact G
  exact ⟨callI_mono d.mono ha.mono, PE.imp (L2.pe_callS (E := L2.WE W) G' (hr.mono hjk) hg (by rw [hmg]; exact h1) (by rw [hK]; exact h2) (by rw [hK]; exact h3.1) (fun σ => L2.passAt tk σ) ha.run hdb he hpl) (callI_run hm d.mono d.len ha)⟩
/-! the thing that is changed is new and nobody's -/
theorem Post.callT {ras : List Addr} (q : Post c p σ M T H M1 (as ++ T) H1 ρ1) (keep : ∀ b o, H1 b = some o → b ∉ as → H2 b = some o) (nd : ras.Nodup) (new : ∀ a ∈ ras, a ∈ as ∨ H1 a = none) (ty : ∀ a ∈ ras, Typed H2 a) :
    Post c false σ M T H (fun a => (M1 a ∧ a ∉ as) ∨ a ∈ ras) (ras ++ T) H2 ρ1 := by
  obtain ⟨Ms, r, ndM, al⟩ := q.sr.slots
  obtain ⟨n1, n2, n3⟩ := List.nodup_append.mp ndM
  obtain ⟨m1, m2, m3⟩ := List.nodup_append.mp n2
  have hA : ∀ a ∈ as, M1 a := fun a h => al a (List.mem_append_right _ (List.mem_append_left _ h))
  have mv : Moved (fun a => a ∈ as) M1 (fun a => (M1 a ∧ a ∉ as) ∨ a ∈ ras) H1 H2 := by
    refine ⟨fun b o e h => keep b o e h, fun a h => q.sr.ty a (hA a h), fun a h => hA a h, fun a h => ?_⟩
    rcases h with h | h
    · exact .inl h.1
    · exact (new a h).imp (hA a) id
  have dj : ∀ a ∈ ras, a ∉ Ms ∧ a ∉ T := fun a h => by
    rcases new a h with z | z
    · exact ⟨fun y => n3 a y a (List.mem_append_left _ z) rfl, fun y => m3 a z a y rfl⟩
    · exact ⟨fun y => (q.sr.ty a (al a (List.mem_append_left _ y))).ne z, fun y => (q.sr.ty a (al a (List.mem_append_right _ (List.mem_append_right _ y)))).ne z⟩
  refine ⟨⟨⟨Ms, r.moved mv fun a h z => n3 a h a (List.mem_append_left _ z) rfl, ?_, fun a h => ?_⟩, fun a h => ?_, fun a h => ?_, fun b o e h => ?_, q.sr.pin, q.sr.ln⟩, fun b o e h => ?_, fun a h => ?_, fun e => nomatch e⟩
  · refine List.nodup_append.mpr ⟨n1, List.nodup_append.mpr ⟨nd, m2, fun a h b hb e => (dj a h).2 (e ▸ hb)⟩, fun a h b hb e => ?_⟩
    subst e
    rcases List.mem_append.mp hb with z | z
    · exact (dj a z).1 h
    · exact n3 a h a (List.mem_append_right _ z) rfl
  · rcases List.mem_append.mp h with z | z
    · exact .inl ⟨al a (List.mem_append_left _ z), fun y => n3 a z a (List.mem_append_left _ y) rfl⟩
    · rcases List.mem_append.mp z with z | z
      · exact .inr z
      · exact .inl ⟨al a (List.mem_append_right _ (List.mem_append_right _ z)), fun y => m3 a y a z rfl⟩
  · rcases h with h | h
    · rcases q.sr.ty a h.1 with ⟨_, e⟩ | ⟨_, _, _, e⟩ | ⟨_, e⟩
      · exact .inl ⟨_, keep _ _ e h.2⟩
      · exact .inr (.inl ⟨_, _, _, keep _ _ e h.2⟩)
      · exact .inr (.inr ⟨_, keep _ _ e h.2⟩)
    · exact ty a h
  · rcases h with h | h
    · exact q.sr.src a h.1
    · rcases new a h with z | z
      · exact q.sr.src a (hA a z)
      · by_cases y : a ∈ c.io
        · exact .inl y
        · refine .inr ?_
          cases e : c.H0 a with
          | none => rfl
          | some u => have := q.sr.keep a u e y; rw [z] at this; cases this
  · refine keep b o (q.sr.keep b o e h) fun z => ?_
    rcases q.sr.src b (hA b z) with y | y
    · exact h y
    · rw [y] at e; cases e
  · refine keep b o (q.keep b o e h) fun z => ?_
    rcases q.new b (hA b z) with y | y
    · exact m3 b z b (h y) rfl
    · rw [y] at e; cases e
  · rcases h with h | h
    · exact q.new a h.1
    · rcases new a h with z | z
      · exact q.new a (hA a z)
      · by_cases y : M a
        · exact .inl y
        · refine .inr ?_
          cases e : H a with
          | none => rfl
          | some u => have := q.keep a u e fun w => absurd w y; rw [z] at this; cases this
/-- the arguments, one of them a new thing that is changed -/
def callN (F : FS) (kk : Nat) (g : AS) : ES := fun ρ K E => g ρ (fun xs ρ1 => match argSs (xs.take kk), xs[kk]?, argSs (xs.drop (kk + 1)) with
  | some ds, some (.m s), some es => F (ds.map .v ++ s :: es.map .v) (fun x ts => match ts with
      | [_] => K x ρ1
      | _ => False) (fun x ts => match ts with
      | [_] => E x ρ1
      | _ => False)
  | _, _, _ => False) E
theorem VRs.take : ∀ (k : Nat) {vs : List V} {xs : List EV} {as : List Addr}, VRs c M H vs xs as → ∃ a1 a2, VRs c M H (vs.take k) (xs.take k) a1 ∧ VRs c M H (vs.drop k) (xs.drop k) a2 ∧ as = a2 ++ a1
  | 0, vs, xs, as, r => ⟨[], as, by rw [List.take_zero, List.take_zero]; exact .nil, r, by simp⟩
  | k + 1, _, _, _, .nil => ⟨[], [], .nil, .nil, rfl⟩
  | k + 1, _, _, _, .cons (as := as) (bs := bs) r rs => by
    obtain ⟨a1, a2, h1, h2, e⟩ := rs.take k
    exact ⟨a1 ++ as, a2, .cons r h1, h2, by rw [e, List.append_assoc]⟩
end
end VS
set_option Elab.async false
set_option linter.all false
set_option maxRecDepth 100000
set_option maxHeartbeats 4000000
/-! VS13: what is walked, list or tuple; constants of the module. Own work. -/
namespace VS
open PySem PySem.Spec PyProof.Rows
open L2 (V Hp HO upd SqL SqT Rd Cx TE TT TA TS TG TGs TI It VK XK WX PE PT PA PS PSs PG PGs PI OpR RelV CallR Sp FnOk atI MtR)
section
variable {X : Cx} {c : Fr} {W : WX} {p p1 p2 : Bool} {M M1 M' M2 : Addr → Prop} {T T' as as1 as2 : List Addr} {σ σ1 : L2.St} {H H1 H' H2 : Hp} {ρ ρ1 ρ' ρ2 : Rho}
theorem pi_seq {tg l : Expr} {tl : TE} (hl : PE X l tl) : PI X tg l (fun σ H R => tl σ H fun x H1 => ∃ a, x = .ref a ∧ (((∃ xs, SqL X.K H1 a xs) ∧ R (L2.Itl X.K a) H1) ∨ ((∃ xs, SqT X.K H1 a xs) ∧ R (L2.Itt X.K a) H1))) := by
  refine ⟨fun pins s σ H R I h => ?_⟩
  refine L2.thn (hl.run pins s σ H _ I h) fun v s1 ⟨x, H1, I1, r1, q1⟩ => ?_
  obtain ⟨a, e, q1⟩ := q1
  subst e
  cases r1
  rcases q1 with ⟨⟨xs, hq⟩, q⟩ | ⟨⟨xs, hq⟩, q⟩
  · obtain ⟨its, rv, p, hz⟩ := I1.list hq
    refine wpAny_pyIter_list p.isList ?_
    refine ⟨s1.heap.objs.size, [s1.heap.objs.size], _, _, H1, rfl, I1.kept (t' := s1.toks) fun b o e => Heap.get?_push_of_some _ e, L2.turn_list a _, ⟨_, Heap.get?_push_size _ rfl, rfl, rfl⟩, fun b hb => ?_, q⟩
    have e : b = s1.heap.objs.size := by simpa using hb
    subst e
    exact I1.fpOk (Nat.le_refl _) (I1.hok.fresh (Nat.le_refl _))
  · obtain ⟨its, rv, p, hz⟩ := I1.tuple hq
    refine wpAny_pyIter_tuple (show s1.heap.IsTuple a its.toArray from p) ?_
    refine ⟨s1.heap.objs.size, [s1.heap.objs.size], _, _, H1, rfl, I1.kept (t' := s1.toks) fun b o e => Heap.get?_push_of_some _ e, L2.turn_tuple a _, ⟨_, Heap.get?_push_size _ rfl, rfl, rfl⟩, fun b hb => ?_, q⟩
    have e : b = s1.heap.objs.size := by simpa using hb
    subst e
    exact I1.fpOk (Nat.le_refl _) (I1.hok.fresh (Nat.le_refl _))
/-- a list that is looked at no more, or a tuple -/
def itS (f : ES) : IS := fun ρ K E => f ρ (fun x ρ' => match asT x with
  | some ds => K ds ρ'
  | none => (match stL x with
    | some ds => K ds ρ'
    | none => False)) E
theorem ij_seq {tg l : Expr} {f : ES} (hK : X.K = c.g.K) (h : EJ X c W p l f) : IJ X c W p tg l (itS f) := by
  refine ⟨fun ρ K K' E E' hk he q => h.mono _ _ _ _ _ (fun x ρ' q => by
    split at q
    · exact hk _ _ q
    · split at q
      · exact hk _ _ q
      · exact q) he q, PI.imp (pi_seq h.run) ?_⟩
  rintro σ H R ⟨ρ, M, T, s, k⟩
  refine ⟨ρ, M, T, s, h.mono _ _ _ _ _ (fun x ρ' k v H' M' as q r => ?_) (fun _ _ h => h) k⟩
  split at k
  · rename_i ds e
    obtain ⟨a, vs, rfl, t, rs⟩ := VR.tuple r e
    refine ⟨a, rfl, .inr ⟨⟨_, hK ▸ t⟩, ?_⟩⟩
    rw [hK]; exact k _ H' M' q.drop (.tup q.drop.sr (.tup t rs))
  · split at k
    · rename_i ds e
      obtain ⟨a, st, M2, rfl, q2, r2⟩ := VRg.stL q r e
      refine ⟨a, rfl, .inl ⟨?_, ?_⟩⟩
      · cases r2 with
        | lst l _ => exact ⟨_, hK ▸ l.sq⟩
      · rw [hK]; exact k _ H' M2 q2 (.list q2.sr r2)
    · exact k.elim
/-- a constant of the module, any data -/
structure GD (K : PySem.W.Frag) (mg : Str → Option Value) (x : Str) (d : D) : Prop where
  ex : ∃ v u, mg x = some u ∧ RelV v u ∧ ∀ Z M H, Rep ⟨K, mg⟩ Z M H v d
theorem ej_gd {x : Str} {d : D} {pos : Pos} (hK : X.K = c.g.K) (hmg : X.mg = c.g.mg) (hg : L2.Gl X x) (h : GD c.g.K c.g.mg x d) (hd : (x == ("__debug__" : Str)) = false := by decide) : EJ X c W true (.Name x pos) (cE d) := by
  obtain ⟨v, u, h1, h2, h3⟩ := h.ex
  exact ej_glob hg (by rw [hmg]; exact h1) h2 (fun Z M H => h3 Z M H) hd
/-- -n of a written number -/
def negE (f : ES) : ES := fun ρ K E => f ρ (fun x ρ' => match x with
  | .v (.int i) => K (.v (.int (-i))) ρ'
  | _ => False) E
end
end VS
set_option Elab.async false
set_option linter.all false
set_option maxRecDepth 100000
set_option maxHeartbeats 4000000
/-! VS16: list comprehensions. Own work. -/
namespace VS
open PySem PySem.Spec PyProof.Rows
open L2 (V Hp HO upd SqL SqT Rd Cx TE TT TA TS TG TGs TI It VK XK WX PE PT PTs PA PS PSs PG PGs PI OpR RelV CallR Sp FnOk atI wipe)
def wipeR (ρ : Rho) : List Nat → Rho
  | [] => ρ
  | v :: vs => (wipeR ρ vs).set v .no
/-- [f for g in ds if t], each turn from ρ; it leaves what was there -/
def compD (vs : List Nat) (g : GS) (t : BS) (f : ES) (ρ : Rho) : List D → List D → (List D → Prop) → Prop
  | [], acc, K => K acc
  | d :: ds, acc, K => g (.v d) ρ (fun ρ1 => t ρ1 (fun b ρ2 => if b = true then f ρ2 (fun x ρ3 => wipeR ρ3 vs = ρ ∧ match evD x with
      | some e => compD vs g t f ρ ds (acc ++ [e]) K
      | none => False) (fun _ _ => False) else wipeR ρ2 vs = ρ ∧ compD vs g t f ρ ds acc K) (fun _ _ => False))
def compE (vs : List Nat) (it : IS) (g : GS) (t : BS) (f : ES) : ES := fun ρ K E => it ρ (fun ds ρ1 => ds.length ≤ 1000000 ∧ compD vs g t f (wipeR ρ1 vs) ds [] (fun out => K (.m (.l out)) (wipeR ρ1 vs))) E
def yesT : BS := fun ρ K _ => K true ρ
abbrev W0 : WX := fun _ _ _ _ => False
structure TJs (X : Cx) (c : Fr) (W : WX) (p : Bool) (es : List Expr) (f : BS) : Prop where
  mono : MonoB f
  run : PTs X es (rdT c W p f)
def rdGW (c : Fr) (vs : List Nat) (f : GS) : TG := fun v σ H Q => ∃ ρ M T s as, SR c M (as ++ T) σ H ρ ∧ RepO c.g c.Z M H v s as ∧ f s ρ (fun ρ' => ∀ σ' M', SR c M' T σ' H ρ' → (∀ a, M' a → M a) → wipe σ' vs = wipe σ vs → Q σ' H)
structure GW (X : Cx) (c : Fr) (vs : List Nat) (e : Expr) (f : GS) : Prop where
  mono : MonoG f
  run : PG X e (rdGW c vs f)
theorem wipe_get {σ : L2.St} : ∀ {vs : List Nat} (j : Nat), (wipe σ vs)[j]? = if j ∈ vs then (if j < σ.length then some none else none) else σ[j]?
  | [], j => by simp [wipe]
  | v :: vs, j => by
    unfold wipe
    by_cases e : v = j
    · subst e
      rw [List.getElem?_set]
      simp [L2.wipe_length]
    · rw [List.getElem?_set_ne e, wipe_get j]
      have : (j ∈ v :: vs) = (j ∈ vs) := by simp [Ne.symm e]
      simp only [this]
theorem wipe_set {σ : L2.St} {vs : List Nat} {i : Nat} {x : Option V} (h : i ∈ vs) : wipe (σ.set i x) vs = wipe σ vs := by
  apply List.ext_getElem?
  intro j
  rw [wipe_get, wipe_get]
  by_cases e : j ∈ vs
  · rw [if_pos e, if_pos e, List.length_set]
  · rw [if_neg e, if_neg e, List.getElem?_set_ne (by intro z; subst z; exact e h)]
theorem wipe_wipe {σ : L2.St} {vs : List Nat} : wipe (wipe σ vs) vs = wipe σ vs := by
  apply List.ext_getElem?
  intro j
  rw [wipe_get, wipe_get, L2.wipe_length]
  by_cases e : j ∈ vs
  · rw [if_pos e, if_pos e]
  · rw [if_neg e, if_neg e]
section
variable {g : Ge} {Z M : Addr → Prop} {H : Hp}
theorem RepS.wipe1 : ∀ {σ : L2.St} {ρ : Rho} {Ms : List Addr}, RepS g Z M H σ ρ Ms → ∀ v, ∃ Ms', RepS g Z M H (σ.set v none) (ρ.set v .no) Ms' ∧ Ms'.Sublist Ms
  | _, _, _, .nil, v => ⟨[], .nil, List.Sublist.refl _⟩
  | _, _, _, .no (as := as) r, 0 => ⟨as, .no r, List.Sublist.refl _⟩
  | _, _, _, .no r, v + 1 => by
    obtain ⟨Ms', r', s⟩ := r.wipe1 v
    exact ⟨Ms', .no r', s⟩
  | _, _, _, .yes (bs := bs) q r, 0 => ⟨bs, .no r, List.sublist_append_right _ _⟩
  | _, _, _, .yes q r, v + 1 => by
    obtain ⟨Ms', r', s⟩ := r.wipe1 v
    exact ⟨_ ++ Ms', .yes q r', List.Sublist.append (List.Sublist.refl _) s⟩
theorem RepS.wipe : ∀ (vs : List Nat) {σ : L2.St} {ρ : Rho} {Ms : List Addr}, RepS g Z M H σ ρ Ms → ∃ Ms', RepS g Z M H (L2.wipe σ vs) (wipeR ρ vs) Ms' ∧ Ms'.Sublist Ms
  | [], _, _, Ms, r => ⟨Ms, r, List.Sublist.refl _⟩
  | v :: vs, _, _, _, r => by
    obtain ⟨Ms1, r1, s1⟩ := RepS.wipe vs r
    obtain ⟨Ms2, r2, s2⟩ := r1.wipe1 v
    exact ⟨Ms2, r2, s2.trans s1⟩
theorem RepS.unwipe1 : ∀ {σ : L2.St} (v : Nat) {ρ : Rho} {Ms : List Addr}, RepS g Z M H (σ.set v none) ρ Ms → RepS g Z M H σ ρ Ms
  | [], _, _, _, r => r
  | x :: σ, 0, _, _, r => by
    cases r with
    | no r => exact .no r
  | x :: σ, v + 1, _, _, r => by
    cases r with
    | no r => exact .no (RepS.unwipe1 v r)
    | yes q r => exact .yes q (RepS.unwipe1 v r)
theorem RepS.unwipe : ∀ (vs : List Nat) {σ : L2.St} {ρ : Rho} {Ms : List Addr}, RepS g Z M H (L2.wipe σ vs) ρ Ms → RepS g Z M H σ ρ Ms
  | [], _, _, _, r => r
  | v :: vs, _, _, _, r => RepS.unwipe vs (RepS.unwipe1 v r)
end
section
variable {X : Cx} {c : Fr} {W : WX} {p p1 p2 : Bool} {M M1 M' M2 : Addr → Prop} {T T' as as1 as2 : List Addr} {σ σ1 : L2.St} {H H1 H' H2 : Hp} {ρ ρ1 ρ' ρ2 : Rho}
theorem SR.wipe {vs : List Nat} (hm : ∀ v ∈ vs, c.mask[v]? ≠ some true) (s : SR c M T σ H ρ) : SR c M T (L2.wipe σ vs) H (wipeR ρ vs) := by
  obtain ⟨Ms, r, nd, al⟩ := s.slots
  obtain ⟨Ms', r', sb⟩ := r.wipe vs
  refine ⟨⟨Ms', r', nd.sublist (List.Sublist.append sb (List.Sublist.refl _)), fun a h => al a ?_⟩, s.ty, s.src, s.keep, fun j hj => ?_, by rw [L2.wipe_length]; exact s.ln⟩
  · rcases List.mem_append.mp h with h | h
    · exact List.mem_append_left _ (sb.subset h)
    · exact List.mem_append_right _ h
  · rw [wipe_get, if_neg (fun z => hm j z hj)]
    exact s.pin j hj
theorem SR.unwipe {vs : List Nat} (hm : ∀ v ∈ vs, c.mask[v]? ≠ some true) (s : SR c M T (L2.wipe σ vs) H ρ) : SR c M T σ H ρ := by
  obtain ⟨Ms, r, nd, al⟩ := s.slots
  refine ⟨⟨Ms, r.unwipe vs, nd, al⟩, s.ty, s.src, s.keep, fun j hj => ?_, by rw [← s.ln, L2.wipe_length]⟩
  have := s.pin j hj
  rwa [wipe_get, if_neg (fun z => hm j z hj)] at this
theorem gw_name {i : Nat} {fz : Bool} {vs : List Nat} {x : Str} {pos : Pos} (hv : i ∈ vs) (hm : c.mask[i]? ≠ some true) (hN : X.N.Nodup) (hi : X.N[i]? = some x) (hx : L2.Loc X.env.scope x) (hf : X.fn x = true ∨ X.env.scope.names.lookup x = some .local) : GW X c vs (.Name x pos) (gN i fz) := by
  refine ⟨fun s ρ K K' hk h => ?_, PG.imp (L2.pg_name hN hi hx hf) ?_⟩
  · unfold gN at h ⊢
    split at h
    · exact ⟨h.1, hk _ h.2⟩
    · exact h
  · rintro v σ H Q ⟨ρ, M, T, s, as, sr, r, h⟩
    unfold gN at h
    split at h
    · rename_i s' e
      cases fz with
      | false =>
        simp only [Bool.false_eq_true, if_false, Option.some.injEq] at e
        subst e
        exact h.2 _ M (sr.put r h.1 hm) (fun _ h => h) (wipe_set hv)
      | true =>
        cases e2 : frSl s with
        | none => simp [e2] at e
        | some d =>
          simp only [e2, if_true, Option.map_some, Option.some.injEq] at e
          subst e
          obtain ⟨sr2, r2⟩ := sr.frz r e2
          exact h.2 _ (fun a => M a ∧ a ∉ as) (sr2.put (as := []) (.v r2) h.1 hm) (fun _ h => h.1) (wipe_set hv)
    · exact h.elim
theorem tjs_nil : TJs X c W true [] yesT := ⟨fun _ _ _ _ _ hk _ h => hk _ _ h, ⟨fun pins s σ H Q I ⟨ρ, M, T, sr, k⟩ => L2.pts_nil.run pins s σ H Q I (k H M (Post.refl sr))⟩⟩
theorem compD_mono {vs : List Nat} {g : GS} {t : BS} {f : ES} {ρ : Rho} (hg : MonoG g) (ht : MonoB t) (hf : Mono f) : ∀ (ds acc : List D) (K K' : List D → Prop), (∀ o, K o → K' o) → compD vs g t f ρ ds acc K → compD vs g t f ρ ds acc K'
  | [], acc, K, K', hk, h => hk _ h
  | d :: ds, acc, K, K', hk, h => hg _ _ _ _ (fun ρ1 h => ht _ _ _ _ _ (fun b ρ2 h => by
      split at h
      · rename_i hb; rw [if_pos hb]
        refine hf _ _ _ _ _ (fun x ρ3 h => ⟨h.1, ?_⟩) (fun _ _ h => h) h
        have h2 := h.2
        split at h2
        · exact compD_mono hg ht hf ds _ K K' hk h2
        · exact h2.elim
      · rename_i hb; rw [if_neg hb]
        exact ⟨h.1, compD_mono hg ht hf ds _ K K' hk h.2⟩) (fun _ _ h => h) h) h
theorem SR.appT {D : Addr} {vals vals' : List V} (s : SR c M (D :: T) σ H ρ) (h : H D = some (.lst vals)) : SR c M (D :: T) σ (upd H D (.lst vals')) ρ := by
  obtain ⟨Ms, r, nd, al⟩ := s.slots
  have mD : M D := al D (List.mem_append_right _ List.mem_cons_self)
  have nD : D ∉ Ms := fun z => (List.nodup_append.mp nd).2.2 D z D List.mem_cons_self rfl
  have mv : Moved (fun a => a = D) M M H (upd H D (.lst vals')) := ⟨fun b o e hb => by rw [L2.upd_ne hb]; exact e, fun a z => by subst z; exact .inl ⟨_, h⟩, fun a z => by subst z; exact mD, fun _ z => .inl z⟩
  refine ⟨⟨Ms, r.moved mv (fun a ha z => nD (z ▸ ha)), nd, al⟩, fun a ha => ?_, s.src, fun b o e hb => ?_, s.pin, s.ln⟩
  · by_cases e : a = D
    · subst e; exact .inl ⟨_, L2.upd_same⟩
    · rcases s.ty a ha with ⟨_, z⟩ | ⟨_, _, _, z⟩ | ⟨_, z⟩
      · exact .inl ⟨_, by rw [L2.upd_ne e]; exact z⟩
      · exact .inr (.inl ⟨_, _, _, by rw [L2.upd_ne e]; exact z⟩)
      · exact .inr (.inr ⟨_, by rw [L2.upd_ne e]; exact z⟩)
  · have : b ≠ D := fun z => by
      subst z
      rcases s.src b mD with z | z
      · exact hb z
      · rw [z] at e; cases e
    rw [L2.upd_ne this]
    exact s.keep b o e hb
theorem blk_ok {N N2 : List Str} {sc sc2 scope : Scope} {own : List (Str × Nat)} (hN : N2 = N) (hs : sc2 = sc) (h : L2.blkC N sc scope own = true) : L2.BlkOk N2 sc2 scope own := by
  subst hN hs
  exact L2.blkOk_by h
theorem lc_imp {elt tg iter : Expr} {ifs : List Expr} {scope : Scope} {own : List (Str × Nat)} {pos : Pos} {it : IS} {g : GS} {t : BS} {f : ES} (hc : X.calm = true) (hN : X.N.Nodup) (hm : ∀ v ∈ own.map (·.2), c.mask[v]? ≠ some true) (hi : IJ X c W p tg iter it) (ok : L2.BlkOk X.N X.env.scope scope own)
    (hg : ∀ (s : Shared) (H : Hp) (C : Addr) (cl : List (Str × Addr)) (fp : List Addr), GW (X.blk s H scope (compEnvC scope cl C X.env) fp) c (own.map (·.2)) tg g) (ht : ∀ (s : Shared) (H : Hp) (C : Addr) (cl : List (Str × Addr)) (fp : List Addr), TJs (X.blk s H scope (compEnvC scope cl C X.env) fp) c W0 true ifs t)
    (he : ∀ (s : Shared) (H : Hp) (C : Addr) (cl : List (Str × Addr)) (fp : List Addr), EJ (X.blk s H scope (compEnvC scope cl C X.env) fp) c W0 true elt f) (hs : ∀ x, foldedSetIterable iter X.env x = pure x := by intro _; rfl) :
    Mono (compE (own.map (·.2)) it g t f) ∧ ∀ σ H Q, rdE c W p (compE (own.map (·.2)) it g t f) σ H Q → L2.tLc (rdI c W p it) (rdGW c (own.map (·.2)) g) (rdT c W0 true t) (rdE c W0 true f) (own.map (·.2)) σ H Q := by
  have mg := (hg X.s_0 X.H_0 0 [] []).mono
  have mt := (ht X.s_0 X.H_0 0 [] []).mono
  have mf := (he X.s_0 X.H_0 0 [] []).mono
  refine ⟨fun ρ K K' E E' hk hx h => hi.mono _ _ _ _ _ (fun ds ρ1 q => ⟨q.1, compD_mono mg mt mf _ _ _ _ (fun o => hk _ _) q.2⟩) hx h, ?_⟩
  rintro σ H Q ⟨ρ, M, T, s, k⟩
  refine ⟨ρ, M, T, s, hi.mono _ _ _ _ _ (fun ds ρ1 k J H1 M1 q1 jt D hD => ?_) (fun x ρ' k => k) k⟩
  obtain ⟨hlen, k⟩ := k
  generalize hvs : own.map (·.2) = vs at *
  have q0 := q1.own hD (o := .lst []) (.inl ⟨_, L2.upd_same⟩)
  have e0 : Ext H1 (upd H1 D (.lst [])) := Ext.new hD
  -- the loop's invariant
  refine ⟨fun i m H5 => ∃ (M5 : Addr → Prop) (vals : List V) (acc : List VS.D), m = ds.length - i ∧ i ≤ ds.length ∧ acc.length ≤ i ∧ SR c M5 (D :: T) (wipe σ vs) H5 (wipeR ρ1 vs) ∧ H5 D = some (.lst vals) ∧ Reps c.g c.Z M5 H5 vals acc ∧ (∀ b o, H1 b = some o → H5 b = some o) ∧ (∀ a, M5 a → M1 a ∨ H1 a = none) ∧
      compD vs g t f (wipeR ρ1 vs) (ds.drop i) acc (fun out => ∀ v H' M' as, Post c p σ M T H M' (as ++ T) H' (wipeR ρ1 vs) → VR c M' H' v (.m (.l out)) as → Q v H'), ⟨ds.length, _, [], [], by simp, Nat.zero_le _, Nat.le_refl _, q0.sr.wipe hm, L2.upd_same, .nil, e0, fun a ha => ?_, ?_⟩, ?_⟩
  · rcases ha with z | rfl
    · exact .inl z
    · exact .inr hD
  · rw [List.drop_zero]; exact k
  rintro i m H5 ⟨M5, vals, acc, rfl, hi', hacc, s5, hD5, r5, x5, n5, k5⟩
  have p5 : Post c false (wipe σ vs) M1 T H1 M5 T H5 (wipeR ρ1 vs) := ⟨SR.drop (as := [D]) s5, fun b o e _ => x5 b o e, n5, fun e => nomatch e⟩
  obtain ⟨it1, it2⟩ := jt _ M5 H5 _ p5 i
  cases e : ds[i]? with
  | none =>
    refine .inl ⟨it2 e, ?_⟩
    have hd : ds.drop i = [] := by rw [List.drop_eq_nil_iff]; exact List.getElem?_eq_none_iff.mp e
    rw [hd] at k5
    have pz : Post c true σ M1 T H1 M5 ([D] ++ T) H5 (wipeR ρ1 vs) := ⟨s5.unwipe hm, fun b o e _ => x5 b o e, n5, fun _ => x5⟩
    have pp := q1.trans pz fun _ z => z
    rw [Bool.and_true] at pp
    have hl : vals.length = acc.length := r5.length
    exact k5 (.ref D) H5 M5 [D] pp (.m (.l hD5 r5))
  | some d =>
    obtain ⟨go, yl⟩ := it1 d e
    obtain ⟨hlt, ed⟩ := List.getElem?_eq_some_iff.mp e
    have hd : ds.drop i = d :: ds.drop (i + 1) := by rw [List.drop_eq_getElem_cons hlt, ed]
    rw [hd] at k5
    refine .inr ⟨go, fun H6 => ∃ (M6 : Addr → Prop) (vals : List V) (acc : List VS.D), acc.length ≤ i + 1 ∧ SR c M6 (D :: T) (wipe σ vs) H6 (wipeR ρ1 vs) ∧ H6 D = some (.lst vals) ∧ Reps c.g c.Z M6 H6 vals acc ∧ (∀ b o, H1 b = some o → H6 b = some o) ∧ (∀ a, M6 a → M1 a ∨ H1 a = none) ∧
        compD vs g t f (wipeR ρ1 vs) (ds.drop (i + 1)) acc (fun out => ∀ v H' M' as, Post c p σ M T H M' (as ++ T) H' (wipeR ρ1 vs) → VR c M' H' v (.m (.l out)) as → Q v H'), fun H6 ⟨M6, vals6, acc6, h1, h2, h3, h4, h5, h6, h7⟩ => ⟨ds.length - (i + 1), by omega, M6, vals6, acc6, rfl, hlt, h1, h2, h3, h4, h5, h6, h7⟩, fun x H6 y => ?_⟩
    obtain ⟨x6, rx⟩ := yl x H6 y
    refine ⟨wipeR ρ1 vs, M5, D :: T, .v d, [], s5.ext x6, .v rx, mg _ _ _ _ (fun ρ7 k7 σ7 M7 s7 m7 w7 => ⟨w7.trans wipe_wipe, ρ7, M7, D :: T, s7, mt _ _ _ _ _ (fun b ρ8 k8 H8 M8 q8 => ?_) (fun _ _ z => z.elim) k7⟩) k5⟩
    have w7' : wipe σ7 vs = wipe σ vs := w7.trans wipe_wipe
    have x8 : Ext H6 H8 := q8.pu rfl
    have n8 : ∀ a, M8 a → M1 a ∨ H1 a = none := fun a ha => by
      rcases q8.new a ha with z | z
      · exact n5 a (m7 a z)
      · refine .inr ?_
        cases e : H1 a with
        | none => rfl
        | some o => rw [x6 _ _ (x5 _ _ e)] at z; cases z
    have n8' : ∀ a, M8 a → M5 a ∨ H5 a = none := fun a ha => by
      rcases q8.new a ha with z | z
      · exact .inl (m7 a z)
      · exact .inr (Ext.free x6 z)
    have k8 := k8
    show (if b = true then _ else _)
    split
    · rename_i hb
      rw [if_pos hb] at k8
      refine ⟨ρ8, M8, D :: T, q8.sr, mf _ _ _ _ _ (fun ev ρ9 k9 v H9 M9 as q9 r9 => ?_) (fun _ _ z => z.elim) k8⟩
      obtain ⟨kw, k9⟩ := k9
      split at k9
      · rename_i d9 e9
        obtain ⟨M10, q10, r10, sub, _⟩ := r9.evD q9 e9
        have x9 : Ext H8 H9 := q10.pu rfl
        have xx : Ext H5 H9 := (x6.trans x8).trans x9
        have hD9 : H9 D = some (.lst vals) := xx _ _ hD5
        have s10 := q10.sr.wipe hm
        rw [w7', kw] at s10
        have n10 : ∀ a, M10 a → M5 a ∨ H5 a = none := fun a ha => by
          rcases q10.new a ha with z | z
          · exact n8' a z
          · exact .inr (Ext.free (x6.trans x8) z)
        have mD : M10 D := by
          obtain ⟨_, _, _, al⟩ := q10.sr.slots
          exact al D (List.mem_append_right _ List.mem_cons_self)
        have mD5 : M5 D := by
          obtain ⟨_, _, _, al⟩ := s5.slots
          exact al D (List.mem_append_right _ List.mem_cons_self)
        have mv : Moved (fun a => a = D) M5 M10 H5 (upd H9 D (.lst (vals ++ [v]))) := ⟨fun b o e hb => by rw [L2.upd_ne hb]; exact xx _ _ e, fun a z => by subst z; exact .inl ⟨_, hD5⟩, fun a z => by subst z; exact mD5, n10⟩
        have mv2 : Moved (fun a => a = D) M10 M10 H9 (upd H9 D (.lst (vals ++ [v]))) := ⟨fun b o e hb => by rw [L2.upd_ne hb]; exact e, fun a z => by subst z; exact .inl ⟨_, hD9⟩, fun a z => by subst z; exact mD, fun _ z => .inl z⟩
        have hl : vals.length = acc.length := r5.length
        refine ⟨vals, hD9, lt_line (by omega), M10, vals ++ [v], acc ++ [d9], by simp; omega, s10.appT hD9, L2.upd_same, (r5.moved mv).append (.cons (r10.moved mv2) .nil), fun b o e => ?_, fun a ha => ?_, k9⟩
        · have : b ≠ D := fun z => by subst z; rw [hD] at e; cases e
          rw [L2.upd_ne this]
          exact xx _ _ (x5 _ _ e)
        · rcases n10 a ha with z | z
          · exact n5 a z
          · refine .inr ?_
            cases e : H1 a with
            | none => rfl
            | some o => rw [x5 _ _ e] at z; cases z
      · exact k9.elim
    · rename_i hb
      rw [if_neg hb] at k8
      obtain ⟨kw, k8⟩ := k8
      have s8 := q8.sr.wipe hm
      rw [w7', kw] at s8
      have mv : Moved (fun _ => False) M5 M8 H5 H8 := ⟨fun b o e _ => x8 _ _ (x6 _ _ e), fun _ z => z.elim, fun _ z => z.elim, n8'⟩
      exact ⟨M8, vals, acc, by omega, s8, x8 _ _ (x6 _ _ hD5), r5.moved mv, fun b o e => x8 _ _ (x6 _ _ (x5 _ _ e)), n8, k8⟩
/-- y = [..] on one line, y a local -/
theorem sj_setlc {i : Nat} {fz : Bool} {y : Str} {py spos : Pos} {elt tg iter : Expr} {ifs : List Expr} {scope : Scope} {own : List (Str × Nat)} {pos : Pos} {it : IS} {g : GS} {t : BS} {f : ES} (hmi : c.mask[i]? ≠ some true) (hy : X.N[i]? = some y) (hyk : X.env.scope.kind = .function) (hyl : X.env.scope.names.lookup y = some .local) (hc : X.calm = true) (hN : X.N.Nodup) (hm : ∀ v ∈ own.map (·.2), c.mask[v]? ≠ some true) (hi : IJ X c W p tg iter it) (ok : L2.BlkOk X.N X.env.scope scope own)
    (hg : ∀ (s : Shared) (H : Hp) (C : Addr) (cl : List (Str × Addr)) (fp : List Addr), GW (X.blk s H scope (compEnvC scope cl C X.env) fp) c (own.map (·.2)) tg g) (ht : ∀ (s : Shared) (H : Hp) (C : Addr) (cl : List (Str × Addr)) (fp : List Addr), TJs (X.blk s H scope (compEnvC scope cl C X.env) fp) c W0 true ifs t)
    (he : ∀ (s : Shared) (H : Hp) (C : Addr) (cl : List (Str × Addr)) (fp : List Addr), EJ (X.blk s H scope (compEnvC scope cl C X.env) fp) c W0 true elt f) (hs : ∀ x, foldedSetIterable iter X.env x = pure x := by intro _; rfl) (hpl : (py.line == pos.line) = true := by rfl) (hya : (scope.names.any fun (n, k) => n == y && (k == .local || k == .cell)) = false := by decide +kernel) :
    SJ X c W (.Assign [.Name y py] (.ListComp elt [⟨tg, iter, ifs, 0⟩] scope pos) spos) (setS i fz (compE (own.map (·.2)) it g t f)) :=
  have h := lc_imp (pos := pos) hc hN hm hi ok hg ht he hs
  ⟨setS_mono h.1, PS.imp (L2.ps_setLc hc hN hy hyl (L2.sw_true hyk hyl hpl hya) hi.run ok (fun s H C cl fp => (hg s H C cl fp).run) (fun s H C cl fp => (ht s H C cl fp).run) (fun s H C cl fp => (he s H C cl fp).run) hs) fun D σ H q => h.2 _ _ _ (setS_run h.1 hmi D σ H q)⟩
end
end VS
set_option Elab.async false
set_option linter.all false
set_option maxRecDepth 100000
set_option maxHeartbeats 4000000
/-! VS17: list(..), tuple(..). Own work. -/
namespace VS
open PySem PySem.Spec PyProof.Rows
open L2 (V Hp HO upd SqL SqT Rd Cx TE TT TA TS TG TGs VK XK WX PE PT PA PS PSs PG PGs OpR RelV CallR Sp FnOk atI)
section
variable {X : Cx} {c : Fr} {W : WX} {p p1 p2 : Bool} {M M' M2 : Addr → Prop} {T T' as as1 as2 : List Addr} {σ : L2.St} {H H' H2 : Hp} {ρ ρ' ρ2 : Rho}
def seqD (x : EV) : Option (List D) := match asL x with
  | some ds => some ds
  | none => asT x
def listC : CR := fun xs K _ ρ => match xs with
  | [x] => (match seqD x with
    | some ds => K (.m (.l ds)) ρ
    | none => False)
  | _ => False
theorem VR.seq {v : V} {x : EV} {ds : List D} (r : VR c M H v x as) (e : seqD x = some ds) : ∃ a vs, v = .ref a ∧ (SqL c.g.K H a vs ∨ SqT c.g.K H a vs) ∧ Reps c.g c.Z M H vs ds := by
  unfold seqD at e
  split at e
  · rename_i ds' e1
    cases e
    obtain ⟨a, vs, h1, h2, h3⟩ := r.list e1
    exact ⟨a, vs, h1, .inl h2, h3⟩
  · obtain ⟨a, vs, h1, h2, h3⟩ := r.tuple e
    exact ⟨a, vs, h1, .inr h2, h3⟩
/-- tuple(a list) -/
def tupC : CR := fun xs K _ ρ => match xs with
  | [x] => (match asL x with
    | some ds => K (.v (.tup ds)) ρ
    | none => (match asT x with
      | some ds => K (.v (.tup ds)) ρ
      | none => False))
  | _ => False
end
end VS
namespace VS
open PySem PySem.Spec PyProof.Rows
open L2 (V Hp HO Cx WX PE)
/-- a name that holds shared data, or an owned list to look at -/
def rE (i : Nat) : ES := fun ρ K _ => match ρ[i]? with
  | some (.v d) => K (.v d) ρ
  | some (.l ds) => K (.b ds) ρ
  | _ => False
theorem ej_r {X : Cx} {c : Fr} {W : WX} {i : Nat} {e : Expr} (h : PE X e (L2.tVar i)) : EJ X c W true e (rE i) := by
  refine ⟨fun ρ K K' E E' hk he q => ?_, PE.imp h ?_⟩
  · unfold rE at q ⊢
    split at q
    · exact hk _ _ q
    · exact hk _ _ q
    · exact q
  · rintro σ H Q ⟨ρ, M, T, s, k⟩
    unfold rE at k
    split at k
    · rename_i d e
      obtain ⟨v, as, h1, h2, _⟩ := s.read e (by simp)
      cases h2 with
      | v r => exact ⟨v, h1, k v H M [] (Post.same s) (.v r)⟩
    · rename_i d e
      obtain ⟨v, as, h1, h2, _⟩ := s.read e (by simp)
      cases h2 with
      | l e r => exact ⟨_, h1, k _ H M [] (Post.same s) (.b e r)⟩
    · exact k.elim
end VS
set_option Elab.async false
set_option linter.all false
set_option maxRecDepth 100000
set_option maxHeartbeats 4000000
/-! VS18: try, except. Own work. -/
namespace VS
open PySem PySem.Spec PyProof.Rows
open L2 (V Hp HO upd SqL SqT Rd Cx TE TT TA TS TG TGs VK XK WX PE PT PA PS PSs PG PGs OpR RelV CallR Sp FnOk atI)
/-! ### the frame of a suite: a run of its own from what is there -/
def maskAt (m : List Bool) (i : Nat) : List Bool := (m ++ List.replicate (i + 1 - m.length) false).set i true
theorem maskAt_self {m : List Bool} {i : Nat} : (maskAt m i)[i]? = some true := by
  unfold maskAt
  rw [List.getElem?_set_self]
  simp only [List.length_append, List.length_replicate]
  omega
open Classical in
/-- without what is owned -/
noncomputable def minus (M : Addr → Prop) (H : Hp) : Hp := fun b => if M b then none else H b
theorem minus_out {M : Addr → Prop} {H : Hp} {b : Addr} (h : ¬ M b) : minus M H b = H b := by
  unfold minus
  exact if_neg h
noncomputable def frX (c : Fr) (M : Addr → Prop) (H : Hp) (i : Nat) (a : Addr) (zm : ∀ x, c.Z x → ¬ M x ∧ H x ≠ none) : Fr where
  g := c.g
  Z := c.Z
  H0 := minus M H
  io := []
  zd := fun x z => by
    rw [minus_out (zm x z).1]
    exact (zm x z).2
  zi := fun _ h => absurd h (by simp)
  mask := maskAt c.mask i
  s0 := c.s0.set i (some (.ref a))
section
variable {X : Cx} {c : Fr} {W : WX} {p p1 p2 : Bool} {M M0 M1 M2 M' : Addr → Prop} {T T' as as1 as2 : List Addr} {σ σ2 : L2.St} {H H0 H1 H' H2 : Hp} {ρ ρ1 ρ' ρ2 : Rho} {i : Nat} {a : Addr}
theorem SR.zm (s : SR c M T σ H ρ) : ∀ x, c.Z x → ¬ M x ∧ H x ≠ none := fun x z => ⟨fun m => s.noZ m z, by
  cases e : c.H0 x with
  | none => exact absurd e (c.zd x z)
  | some o => rw [s.keep x o e fun q => c.zi x q z]; simp⟩
/-- what the suite knows of its exception -/
structure XIn (c : Fr) (M : Addr → Prop) (H : Hp) (i : Nat) (a : Addr) (cls : Value) (d : Option Addr) (x : Exc) : Prop where
  zm : ∀ x, c.Z x → ¬ M x ∧ H x ≠ none
  ty : ∀ b, M b → Typed H b
  rep : XRep c M H cls d x
  ln : i < c.s0.length
theorem XRg.moved {g : Ge} {Z ch : Addr → Prop} {cls : Value} {d : Option Addr} {x : Exc} (m : Moved ch M M' H H') (r : XRg g Z M H cls d x) : XRg g Z M' H' cls d x := by
  cases r with
  | no h => exact .no h
  | yes h e n w r =>
    refine .yes h (m.keep _ _ e fun z => ?_) n w (r.moved m)
    rcases m.ty _ z with ⟨_, q⟩ | ⟨_, _, _, q⟩ | ⟨_, q⟩ <;> (rw [e] at q; cases q)
theorem XIn.at_ {cls : Value} {d : Option Addr} {x : Exc} (h : XIn c M0 H0 i a cls d x) (s : SR (frX c M0 H0 i a h.zm) M T σ H ρ) : σ[i]? = some (some (.ref a)) := by
  rw [s.pin i maskAt_self]
  show (c.s0.set i (some (.ref a)))[i]? = _
  rw [List.getElem?_set_self h.ln]
/-! ### which classes a clause catches -/
structure XM (K : PySem.W.Frag) (mg : Str → Option Value) (cn y : Str) (b : Bool) : Prop where
  ex : ∃ C D, mg cn = some (.ref C) ∧ mg y = some (.ref D) ∧ PySem.W.exmOne K (.ref C) (.ref D) = some b
def lookB (L : List (Str × Bool)) (cn : Str) : Option Bool := match L with
  | [] => none
  | p :: L => if p.1 = cn then some p.2 else lookB L cn
def tryAsS (L : List (Str × Bool)) (i : Nat) (f : SS) (g : Exc → SS) : SS := fun ρ k => f ρ { k with ex := fun x ρ' => match lookB L x.cn with
  | some true => i < ρ'.length ∧ g x (ρ'.set i .no) ⟨fun ρ2 => k.nx (ρ2.set i .no), fun ev ρ2 => k.rt ev (ρ2.set i .no), fun _ _ => False, fun ρ2 => k.bk (ρ2.set i .no), fun ρ2 => k.ct (ρ2.set i .no)⟩
  | some false => k.ex x ρ'
  | none => False }
/-- .. except y: without a name -/
def tryOnlyS (L : List (Str × Bool)) (f g : SS) : SS := fun ρ k => f ρ { k with ex := fun x ρ' => match lookB L x.cn with
  | some true => g ρ' { k with ex := fun _ _ => False }
  | some false => k.ex x ρ'
  | none => False }
end
end VS
set_option Elab.async false
set_option linter.all false
set_option maxRecDepth 100000
set_option maxHeartbeats 4000000
/-! VS19: what a suite asks of its exception. Own work. -/
namespace VS
open PySem PySem.Spec PyProof.Rows
open L2 (V Hp HO upd SqL SqT Rd Cx TE TT TA TS TG TGs VK XK WX PE PT PA PS PSs PG PGs OpR RelV CallR Sp FnOk atI)
section
variable {X : Cx} {c : Fr} {W : WX} {p p1 p2 : Bool} {M M0 M1 M2 M' : Addr → Prop} {T T' as as1 as2 : List Addr} {σ σ2 : L2.St} {H H0 H1 H' H2 : Hp} {ρ ρ1 ρ' ρ2 : Rho} {i : Nat} {a : Addr} {oe : Obj} {cls : Value} {d : Option Addr} {pn : List (Addr × Obj)} {x : Exc}
/-! e.f -/
def lookF : List Str → List D → Str → Option D
  | n :: ns, d :: ds, f => if n = f then some d else lookF ns ds f
  | _, _, _ => none
def xfE (cn f : Str) (x : Exc) : ES := fun ρ K _ => x.cn = cn ∧ match lookF x.ns x.ds f with
  | some d => K (.v d) ρ
  | none => False
/-! isinstance(e, y), isinstance(e, (y, ..)) -/
def CVal (mg : Str → Option Value) (y : Str) (v : V) (cv : Value) : Prop := (∃ D, mg y = some (.ref D) ∧ v = .ref D ∧ cv = .ref D) ∨ (mg y = none ∧ ∃ n, bootBuiltins y = some (.type n) ∧ y ≠ "__name__" ∧ v = .ty n ∧ cv = .type n)
theorem CVal.inj {mg : Str → Option Value} {y : Str} {v v' : V} {cv cv' : Value} (h : CVal mg y v cv) (h' : CVal mg y v' cv') : v' = v ∧ cv' = cv := by
  rcases h with ⟨D, h1, rfl, rfl⟩ | ⟨h1, n, h2, _, rfl, rfl⟩
  · rcases h' with ⟨D', h1', rfl, rfl⟩ | ⟨h1', n', h2', _, rfl, rfl⟩
    · rw [h1] at h1'; cases h1'; exact ⟨rfl, rfl⟩
    · rw [h1] at h1'; cases h1'
  · rcases h' with ⟨D', h1', rfl, rfl⟩ | ⟨h1', n', h2', _, rfl, rfl⟩
    · rw [h1] at h1'; cases h1'
    · rw [h2] at h2'; cases h2'; exact ⟨rfl, rfl⟩
inductive CVals (mg : Str → Option Value) : List Str → List V → List Value → Prop
  | nil : CVals mg [] [] []
  | cons {y : Str} {v : V} {cv : Value} {ys : List Str} {vs : List V} {cvs : List Value} : CVal mg y v cv → CVals mg ys vs cvs → CVals mg (y :: ys) (v :: vs) (cv :: cvs)
theorem CVals.inj {mg : Str → Option Value} : ∀ {ys : List Str} {vs vs' : List V} {cvs cvs' : List Value}, CVals mg ys vs cvs → CVals mg ys vs' cvs' → vs' = vs ∧ cvs' = cvs
  | [], _, _, _, _, .nil, .nil => ⟨rfl, rfl⟩
  | _ :: _, _, _, _, _, .cons h hs, .cons k ks => by
    obtain ⟨rfl, rfl⟩ := h.inj k
    obtain ⟨rfl, rfl⟩ := hs.inj ks
    exact ⟨rfl, rfl⟩
theorem CVals.len {mg : Str → Option Value} : ∀ {ys : List Str} {vs : List V} {cvs : List Value}, CVals mg ys vs cvs → vs.length = ys.length
  | _, _, _, .nil => rfl
  | _, _, _, .cons _ hs => by rw [List.length_cons, List.length_cons, hs.len]
def kinE (L : List (Str × Bool)) (x : Exc) : ES := fun ρ K _ => match lookB L x.cn with
  | some b => K (.v (.bl b)) ρ
  | none => False
theorem XRg.xd {g : Ge} {Z : Addr → Prop} (r : XRg g Z M H cls d x) : ∀ dd, d = some dd → ∃ fs, H dd = some (.xd fs) := fun dd e => by
  cases r with
  | no _ => cases e
  | yes _ h _ _ _ => cases e; exact ⟨_, h⟩
/-! what grows with its ends -/
end
end VS
set_option Elab.async false
set_option linter.all false
set_option maxRecDepth 100000
set_option maxHeartbeats 4000000
/-! VS20: what is never reached; what is frozen on its way; is True; all. Own work. -/
namespace VS
open PySem PySem.Spec PyProof.Rows
open L2 (V Hp HO upd SqL SqT Rd Cx TE TT TA TS TG TGs VK XK WX PE PT PA PS PSs PG PGs OpR RelV CallR Sp FnOk atI)
section
variable {X : Cx} {c : Fr} {W : WX} {p p1 p2 : Bool} {M M' M2 : Addr → Prop} {T T' as as1 as2 : List Addr} {σ : L2.St} {H H' H2 : Hp} {ρ ρ' ρ2 : Rho}
/-- owned by nobody from here on, changed by nobody -/
def frzE (f : ES) : ES := fun ρ K E => f ρ (fun x ρ' => match x with
  | .m s => (match frSl s with
    | some d => K (.v d) ρ'
    | none => False)
  | .v d => K (.v d) ρ'
  | _ => False) E
/-! is True, is False -/
def isTB : EV → Option Bool
  | .v (.bl b) => some b
  | .m (.v (.bl b)) => some b
  | _ => none
def isTR : BR := fun x y K _ ρ => match y with
  | .v (.bl b) => K (.v (.bl (isTB x == some b))) ρ
  | _ => False
/-! all of a list of bools -/
def blsD : List D → Option (List Bool)
  | [] => some []
  | .bl b :: ds => (blsD ds).map (b :: ·)
  | _ :: _ => none
def allC : CR := fun xs K _ ρ => match xs with
  | [x] => (match (asL x).bind blsD with
    | some bs => K (.v (.bl (bs.all id))) ρ
    | none => False)
  | _ => False
end
end VS
set_option Elab.async false
set_option linter.all false
set_option maxRecDepth 100000
set_option maxHeartbeats 4000000
/-! VS14: how a def's semantics is computed: simp set; promises. Own work. -/
namespace VS
open PySem PySem.Spec PyProof.Rows
open L2 (V Hp Cx WX)
theorem at0 {α : Type} {x : α} {xs : List α} : L2.atI (x :: xs) 0 = some x := by simp [L2.atI, L2.ixN]; try (rw [if_pos (by omega)]; rfl)
theorem at1 {α : Type} {x y : α} {xs : List α} : L2.atI (x :: y :: xs) 1 = some y := by simp [L2.atI, L2.ixN]; try (rw [if_pos (by omega)]; rfl)
theorem at2 {α : Type} {x y z : α} {xs : List α} : L2.atI (x :: y :: z :: xs) 2 = some z := by simp [L2.atI, L2.ixN]; try (rw [if_pos (by omega)]; rfl)
theorem at3 {α : Type} {x y z u : α} {xs : List α} : L2.atI (x :: y :: z :: u :: xs) 3 = some u := by simp [L2.atI, L2.ixN]; try (rw [if_pos (by omega)]; rfl)
/-! eqD by its cases alone: unfolded at a symbol the kernel refuses it -/
theorem eqD_nn : eqD .non .non = true := by simp [eqD]
theorem eqD_bb {a b : Bool} : eqD (.bl a) (.bl b) = (a == b) := by simp [eqD]
theorem eqD_ii {i j : Int} : eqD (.int i) (.int j) = (i == j) := by simp [eqD]
theorem eqD_ss {a b : Str} : eqD (.str a) (.str b) = (a == b) := by simp [eqD]
theorem eqD_tt {a b : List D} : eqD (.tup a) (.tup b) = eqDs a b := by simp [eqD]
theorem eqD_ll {s t : Bool} {a b : List D} : eqD (.lst s a) (.lst t b) = eqDs a b := by simp [eqD]
theorem eqD_bi {b : Bool} {i : Int} : eqD (.bl b) (.int i) = ((if b then 1 else 0) == i) := by simp [eqD]
theorem eqD_ib {b : Bool} {i : Int} : eqD (.int i) (.bl b) = (i == (if b then 1 else 0)) := by simp [eqD]
theorem eqD_nt {a : List D} : eqD .non (.tup a) = false := by simp [eqD]
theorem eqD_tn {a : List D} : eqD (.tup a) .non = false := by simp [eqD]
theorem eqD_it {i : Int} {a : List D} : eqD (.int i) (.tup a) = false := by simp [eqD]
theorem eqD_ti {i : Int} {a : List D} : eqD (.tup a) (.int i) = false := by simp [eqD]
theorem eqD_ni {i : Int} : eqD .non (.int i) = false := by simp [eqD]
theorem eqD_in {i : Int} : eqD (.int i) .non = false := by simp [eqD]
theorem eqDs_nn : eqDs [] [] = true := by simp [eqDs]
theorem eqDs_cc {a b : D} {as bs : List D} : eqDs (a :: as) (b :: bs) = (eqD a b && eqDs as bs) := by simp [eqDs]
theorem eqDs_nc {b : D} {bs : List D} : eqDs [] (b :: bs) = false := by simp [eqDs]
theorem eqDs_cn {b : D} {bs : List D} : eqDs (b :: bs) [] = false := by simp [eqDs]
end VS
set_option Elab.async false
set_option linter.all false
set_option maxRecDepth 100000
set_option maxHeartbeats 4000000
/-! VS15: the end of a law. Own work. -/
namespace VS
open PySem PySem.Spec PyProof.Rows
open L2 (V Hp HO upd SqL SqT Rd Cx Sp FnOk)
/-- the script, ints of at most 2 ^ 20 bits -/
def F_law : FS := fun ss K _ => match ss with
  | [.v (.lst true ds)] => (∃ ns : List Int, ds = ns.map .int ∧ ns.length ≤ 63 ∧ ∀ n ∈ ns, Builtin.Int.intBits n ≤ 1048576) ∧ K (.v (.bl true)) []
  | _ => False
theorem m_law : MonoF F_law := fun ss K K' E E' hk he h => by
  unfold F_law at h ⊢
  grind
theorem reps_ints {g : Ge} {Z M : Addr → Prop} {H : Hp} : ∀ {ns : List Int}, Reps g Z M H (ns.map V.int) (ns.map .int)
  | [] => .nil
  | _ :: _ => .cons (.int _) reps_ints
theorem sp_law {g : Ge} {H : Hp} {a : Addr} {ns : List Int} (hl : ns.length ≤ 63) (hb : ∀ n ∈ ns, Builtin.Int.intBits n ≤ 1048576) (hS : SqL g.K H a (ns.map V.int)) : spV g [false] F_law [.ref a] H (fun v _ => v = .bl true) fun _ _ _ => False := by
  refine ⟨fun _ => False, [.v (.lst true (ns.map .int))], [], fun _ h => h.elim, fun _ h => absurd h (by simp), ?_, .nil, rfl, ⟨ns, rfl, hl, hb⟩, fun v H' ras ias cp rv re => ?_⟩
  · refine .cons (as := []) (bs := []) (.v (.lst ?_ reps_ints)) .nil
    rcases hS with (h | h) | h
    · exact .inl ⟨h, fun z => absurd z (by simp), fun _ z => z⟩
    · exact .inr (.inl h)
    · exact .inr (.inr h)
  · cases rv with
    | v r => cases r; rfl
theorem law_end {l : PySem.W.OpenLaw} {w : World} {K : PySem.W.Frag} {mg : Str → Option Value} {fa : Addr} {h : Heap} {k : Nat} {x : Str} {qual : Str} {st : Stmt} {f : Addr} {fd : FuncData} {dvs : List V} {kws : List (Str × V)} (hfa : mg "law" = some (.ref fa)) (h1 : mg "law" = some (.ref f)) (F : L2.FunD K "law" qual (L2.defArgs st) (L2.defBody st) (L2.defScope st) dvs kws f fd) (hb : ∀ (s : Shared) (u : Value), BindsTo s fd ⟨[u], []⟩ [(x, u)])
    (D : ∀ base : Heap, K.In base → base.Ns mainGlobals mg → Def l.prog w K mg base k "law" [x] [false] F_law) : LamX.LawAtS l w K (L2.CX l.prog w) k 63 x mg fa h := by
  have e : f = fa := by rw [hfa] at h1; cases h1; rfl
  subst e
  refine ⟨fd, [], spV ⟨K, mg⟩ [false] F_law, fun _ h => absurd h (by simp), fun _ h => absurd h (by simp), fun _ h => absurd h (by simp), hb, fun H a ns hl hbits _ hS => sp_law hl hbits hS, fun base kb nb _ => ?_⟩
  obtain ⟨f', fd', G, g1, g2, g3, oc, od, osl, lk⟩ := (D base kb nb).ex
  have e : f' = f := by rw [hfa] at g1; cases g1; rfl
  subst e
  have e2 : fd' = fd := by
    obtain ⟨oc2, od2, dV, kV, doc, pm, an, cdv, ct, osl2, hfd, lk2, _⟩ := F.ex
    rw [lk] at lk2
    cases lk2
    rfl
  subst e2
  exact G
theorem cx_end {P : Program} {w : World} {H : Hp} {s : Shared} {e : Value} {s' : Shared} (h : L2.CX P w [] H s (fun _ _ _ => False) e s') : False := by
  obtain ⟨_, _, _, _, _, _, _, _, _, _, _, _, z⟩ := h
  exact z
/-! ### facts and constants of the module -/
mutual
def gdB (K : PySem.W.Frag) : D → Value → Bool
  | .non, .none => true
  | .bl b, .bool c => b == c
  | .int i, .int j _ => decide (j = i)
  | .str s, .str z _ => decide (z = s)
  | .tup ds, .ref a => (match K.lookup a with
    | some ⟨.type c, _, .seq its _, _⟩ => decide (c = "tuple") && (decide (its.size ≤ sizeLine) && gdBs K ds its.toList)
    | _ => false)
  | _, _ => false
def gdBs (K : PySem.W.Frag) : List D → List Value → Bool
  | [], [] => true
  | d :: ds, u :: us => gdB K d u && gdBs K ds us
  | _, _ => false
end
mutual
theorem gdB_ok {g : Ge} : ∀ {d : D} {u : Value}, gdB g.K d u = true → ∃ v, L2.RelV v u ∧ ∀ Z M H, Rep g Z M H v d
  | .non, .none, _ => ⟨.non, rfl, fun _ _ _ => .non⟩
  | .bl b, .bool c, h => ⟨.bl b, by
    have : b = c := by simpa [gdB] using h
    rw [this]; rfl, fun _ _ _ => .bl b⟩
  | .int i, .int j t, h => ⟨.int i, ⟨t, by
    have : j = i := by simpa [gdB] using h
    rw [this]⟩, fun _ _ _ => .int i⟩
  | .str s, .str z t, h => ⟨.str s, ⟨t, by
    have : z = s := by simpa [gdB] using h
    rw [this]⟩, fun _ _ _ => .str s⟩
  | .tup ds, .ref a, h => by
    unfold gdB at h
    split at h
    · rename_i c od its n osl e
      rw [Bool.and_eq_true, Bool.and_eq_true] at h
      obtain ⟨h1, h2, h3⟩ := h
      obtain ⟨vs, r1, r2⟩ := gdBs_ok (g := g) h3
      exact ⟨.ref a, rfl, fun Z M H => .tup (.inr ⟨_, its, n, e, congrArg Value.type (of_decide_eq_true h1), rfl, of_decide_eq_true h2, r1⟩) (r2 Z M H)⟩
    · cases h
theorem gdBs_ok {g : Ge} : ∀ {ds : List D} {us : List Value}, gdBs g.K ds us = true → ∃ vs, L2.Vals vs us ∧ ∀ Z M H, Reps g Z M H vs ds
  | [], [], _ => ⟨[], .nil, fun _ _ _ => .nil⟩
  | d :: ds, u :: us, h => by
    unfold gdBs at h
    rw [Bool.and_eq_true] at h
    obtain ⟨v, r1, r2⟩ := gdB_ok (g := g) h.1
    obtain ⟨vs, r3, r4⟩ := gdBs_ok (g := g) h.2
    exact ⟨v :: vs, .cons r1 r3, fun Z M H => .cons (r2 Z M H) (r4 Z M H)⟩
end
def gdG (K : PySem.W.Frag) (p : Str × D) : Bool := match PySem.W.nsIn K mainGlobals p.1 with
  | some (some u) => gdB K p.2 u
  | _ => false
theorem gdG_ok {K : PySem.W.Frag} {h : Heap} {mg : Str → Option Value} (X : K.In h) (G : h.Ns mainGlobals mg) {p : Str × D} (c : gdG K p = true) : GD K mg p.1 p.2 := by
  unfold gdG at c
  split at c
  · rename_i u e
    obtain ⟨v, r1, r2⟩ := gdB_ok (g := ⟨K, mg⟩) c
    exact ⟨v, u, PySem.W.mg_of X G e, r1, r2⟩
  · cases c
def SaysC' (fa : List He.Fa) (fn : List He.DefD) (gs : List (Str × D)) (K : PySem.W.Frag) : Prop := He.SaysD fa fn K ∧ gs.all (gdG K) = true
theorem SaysC'.gd {fa : List He.Fa} {fn : List He.DefD} {gs : List (Str × D)} {K : PySem.W.Frag} {h : Heap} {mg : Str → Option Value} (c : SaysC' fa fn gs K) (X : K.In h) (G : h.Ns mainGlobals mg) {p : Str × D} (hp : p ∈ gs) : GD K mg p.1 p.2 :=
  gdG_ok X G (List.all_eq_true.mp c.2 p hp)
/-- the script's ints are small enough -/
theorem bits_si {n : Int} {m : Nat} (h : Builtin.Int.intBits n ≤ m) : n.natAbs < 2 ^ m := by
  unfold Builtin.Int.intBits at h
  by_cases e : n.natAbs = 0
  · rw [e]; exact Nat.two_pow_pos _
  · have hz : (n == 0) = false := by simp; omega
    rw [hz] at h
    exact (Nat.log2_lt e).mp (by simp at h; omega)
end VS
set_option Elab.async false
set_option linter.all false
set_option maxRecDepth 100000
set_option maxHeartbeats 4000000
/-! VS21: facts of the module for suites. Own work. -/
namespace VS
open PySem PySem.Spec PyProof.Rows
open L2 (V Hp HO upd SqL SqT Rd Cx Sp FnOk)
/-- facts: which class is of which; what a class of errors has -/
inductive Xa where
  | own (cn y : Str) (b : Bool)
  | blt (cn y : Str) (n : String) (b : Bool)
  | exc (cn : Str)
  | xf (cn f : Str)
def Xa.ok (K : PySem.W.Frag) : Xa → Bool
  | .own cn y b => decide (PySem.W.kitOne K (.ref (He.ga K cn)) (.ref (He.ga K y)) = some b)
  | .blt cn y n b => decide (bootBuiltins y = some (.type n)) && (decide (y ≠ "__name__") && decide (PySem.W.kitOne K (.ref (He.ga K cn)) (.type n) = some b))
  | .exc cn => decide (PySem.W.findIn K (.ref (He.ga K cn)) "__getattribute__" = some (some (.builtin "BaseException.__getattribute__"))) && (decide (PySem.W.findIn K (.ref (He.ga K cn)) "__getattr__" = some none) && (decide (PySem.W.subIn K (.ref (He.ga K cn)) (.type "BaseException") = some true) && (PySem.W.hasDictIn K (He.ga K cn) && (decide (PySem.W.findIn K (.ref (He.ga K cn)) "__class__" = some (some (.builtin "object.__class__"))) && (decide (PySem.W.specialIn K (.builtin "object.__class__") "__get__" = some (some (.builtin "getset_descriptor.__get__"))) && (decide (PySem.W.takesIn K (.builtin "object.__class__") = some true) && decide (PySem.W.mroIn K (He.ga K cn) (.type "object") = some true)))))))
  | .xf cn f => decide (PySem.W.findIn K (.ref (He.ga K cn)) f = some none)
theorem Xa.exc_ok {K : PySem.W.Frag} {cn : Str} (h : Xa.ok K (.exc cn) = true) : L2.ExcC K (He.ga K cn) := by
  unfold Xa.ok at h
  simp only [Bool.and_eq_true, decide_eq_true_eq] at h
  obtain ⟨h1, h2, h3, h4, h5, h6, h7, h8⟩ := h
  exact ⟨h1, h2, h3, h4, h5, h6, h7, h8⟩
abbrev AlX : Type := He.AlD × (Bool × Bool)
def SaysX' (fa : List He.Fa) (fn : List He.DefD) (gs : List (Str × D)) (xa : List Xa) (K : PySem.W.Frag) : Prop := SaysC' fa fn gs K ∧ xa.all (Xa.ok K) = true
theorem SaysX'.at_ {fa : List He.Fa} {fn : List He.DefD} {gs : List (Str × D)} {xa : List Xa} {K : PySem.W.Frag} (c : SaysX' fa fn gs xa K) (i : Nat) {x : Xa} (h : xa[i]? = some x) : Xa.ok K x = true := List.all_eq_true.mp c.2 x (List.mem_of_getElem? h)
end VS
set_option Elab.async false
set_option linter.all false
set_option maxRecDepth 100000
set_option maxHeartbeats 4000000
/-! VS22: a, b = a tuple or a list. Own work. -/
namespace VS
open PySem PySem.Spec PyProof.Rows
open L2 (V Hp HO upd SqL SqT Rd Cx TE TT TA TS TG TGs VK XK WX PE PT PA PS PSs PG PGs OpR RelV CallR Sp FnOk atI)
section
variable {X : Cx} {c : Fr} {W : WX} {p p1 p2 : Bool} {M M' M2 : Addr → Prop} {T T' as as1 as2 : List Addr} {σ : L2.St} {H H' H2 : Hp} {ρ ρ' ρ2 : Rho}
def gU (n : Nat) (g : GSs) : GS := fun s ρ K => match s with
  | .v (.lst _ ds) => ds.length = n ∧ g (ds.map .v) ρ K
  | .l ds => ds.length = n ∧ g (ds.map .v) ρ K
  | s => gT n g s ρ K
end
/-! sizes of a fraction's parts -/
theorem Rat.nz (q : Rat) : (q.den : Int) ≠ 0 := by have := q.den_nz; omega
end VS
set_option Elab.async false
set_option linter.all false
set_option maxRecDepth 100000
set_option maxHeartbeats 4000000
/-! VS23: raise of a class whose __init__ keeps fields. Own work. -/
namespace VS
open PySem PySem.Spec PyProof.Rows
open L2 (V Hp HO upd SqL SqT Rd Cx TE TT TA TS TG TGs VK XK WX PE PT PA PS PSs PG PGs OpR RelV CallR Sp FnOk atI)
/-- a method's text: the j-th of the class that stands at a place -/
def methS (c : Stmt) (j : Nat) : Stmt := match c with
  | .ClassDef _ _ _ b _ _ _ _ _ _ p => b.getD j (.Pass p)
  | s => s
/-- the base class whose __init__ is ValueError's -/
structure KBase (K : PySem.W.Frag) (mg : Str → Option Value) (y : Str) : Prop where
  ex : ∃ D, mg y = some (.ref D) ∧ PySem.W.readsIn K D (.type "type") = true ∧ PySem.W.specialIn K (.ref D) "__getattribute__" = some (some (.builtin "type.__getattribute__")) ∧ PySem.W.findCls K (.ref D) (.type "type") "__init__" = some (.val (.builtin "ValueError.__init__"))
theorem pe_kinit {X : Cx} {y : Str} {q1 q2 pos : Pos} {e : Expr} {es : List Expr} {ta : TA} {pl : Sem Bool} (kb : KBase X.K X.mg y) (hy : L2.Gl X y) (ha : PA X (e :: es) ta)
    (hcall : eval (.Call (.Attribute (.Name y q1) "__init__" q2) (e :: es) [] pos) X.env = (do
      let r ← eval (.Name y q1) X.env
      standAt q2.atName
      let (g, pre) ← holding [r] (getMethod r "__init__" pl)
      callWith pos g pre (backTo pos (starEach (e :: es) X.env)) (backToKw pos (keywordEach [] X.env))) := by rfl)
    (hst : starEach (e :: es) X.env = (false, eval e X.env) :: starEach es X.env := by rfl) (hno : (backTo pos (starEach es X.env)).any (·.1) = false := by rfl) (hdb : (y == ("__debug__" : Str)) = false := by decide) :
    PE X (.Call (.Attribute (.Name y q1) "__init__" q2) (e :: es) [] pos) (L2.tVeI X.K ta) := by
  obtain ⟨D, gD, rd, ga, fc⟩ := kb.ex
  constructor
  intro pins s σ H Q I h
  apply PySem.W.methodCall_KW (L2.ld_glob I hy gD ?_ hdb) hcall
  apply PySem.W.method_cls I.kIn ga
  apply PySem.W.cls_value I.kIn rd fc rfl
  have I0 := I.tok (s.toks + 1)
  show wpAny _ _ (callWith pos (Value.builtin "ValueError.__init__") [] _ []) _ _ _
  apply PyProof.Rows.callWith_method1 ?_ hst hno
  apply L2.thn (ha.run pos pins _ σ H _ I0 h)
  rintro us s1 ⟨vs, H1, I1, r1, a, C, ws, ev, hl, T, ea, q⟩
  subst ev
  cases r1 with
  | cons ra rw' =>
    cases ra
    have hlen : ws.length = _ := Paired.length rw'
    exact L2.oinit_ok T I1 ea (by rw [← hlen, sizeLine_eq]; omega) fun s' J => ⟨.non, H1, J, rfl, q⟩
/-- what an __init__ does that keeps fl -/
def iniSp (C : Addr) (fl : List Str) : Sp := fun vs H Q _ => ∃ a ys, vs = V.ref a :: ys ∧ ys.length = fl.length ∧ H a = some (L2.exo a C none) ∧ ∀ dx, H dx = none → dx ≠ a → Q .non (upd (upd H dx (L2.exd dx (fl.zip ys).reverse)) a (L2.exo a C (some dx)))
/-- a class of errors that keeps fl -/
structure XIni (P : Program) (w : World) (K : PySem.W.Frag) (mg : Str → Option Value) (base : Heap) (k : Nat) (cn : Str) (fl : List Str) : Prop where
  ex : ∃ C fI fd ps, mg cn = some (.ref C) ∧ L2.OexC K C ∧ PySem.W.findIn K (.ref C) "__init__" = some (some (.ref fI)) ∧ PySem.W.typeIn K (.ref fI) = some (.type "function") ∧ FnOk P w K mg base (L2.CX P w) k fI fd ps (iniSp C fl) ∧ L2.Binds K fd ps []
def raiseIS (cn : Str) (fl : List Str) (g : AS) : SS := fun ρ k => g ρ (fun xs ρ' => match allV xs with
  | some ds => (ds.length = fl.length ∧ ds.length ≤ 100) ∧ k.ex ⟨cn, fl.reverse, ds.reverse⟩ ρ'
  | none => False) k.ex
section
variable {X : Cx} {c : Fr} {W : WX} {p : Bool}
theorem raiseIS_mono {cn : Str} {fl : List Str} {g : AS} (hg : MonoA g) : MonoS (raiseIS cn fl g) := fun ρ k k' l h => hg _ _ _ _ _ (fun xs ρ' q => by
  split at q
  · exact ⟨q.1, l.2.2.1 _ _ q.2⟩
  · exact q) (fun _ _ => l.2.2.1 _ _) h
theorem Reps.rev {g : Ge} {Z M : Addr → Prop} {H : Hp} : ∀ {vs : List V} {ds : List D}, Reps g Z M H vs ds → Reps g Z M H vs.reverse ds.reverse
  | _, _, .nil => .nil
  | _, _, .cons r rs => by
    rw [List.reverse_cons, List.reverse_cons]
    exact rs.rev.append (.cons r .nil)
theorem zip_fst : ∀ {fl : List Str} {vs : List V}, vs.length = fl.length → (fl.zip vs).map (·.1) = fl
  | [], [], _ => rfl
  | [], _ :: _, h => by simp at h
  | _ :: _, [], h => by simp at h
  | f :: fl, v :: vs, h => by rw [List.zip_cons_cons, List.map_cons, zip_fst (by simpa using h)]
theorem zip_snd : ∀ {fl : List Str} {vs : List V}, vs.length = fl.length → (fl.zip vs).map (·.2) = vs
  | [], [], _ => rfl
  | [], _ :: _, h => by simp at h
  | _ :: _, [], h => by simp at h
  | f :: fl, v :: vs, h => by rw [List.zip_cons_cons, List.map_cons, zip_snd (by simpa using h)]
theorem sj_raiseI {cn : Str} {fl : List Str} {j k : Nat} {e : Expr} {es : List Expr} {g : AS} {pp pos pos' : Pos} (hK : X.K = c.g.K) (hmg : X.mg = c.g.mg) (hc : X.calm = true) (hr : L2.Room k X.A) (hjk : j + 1 ≤ k) (tk : L2.Takes X W) (xi : XIni X.prog X.w c.g.K c.g.mg X.base j cn fl) (hx : L2.Passes (L2.CX X.prog X.w) X (fun _ _ _ => False)) (hg : L2.Gl X cn) (ha : AJ X c W p (e :: es) g)
    (hdb : (cn == ("__debug__" : Str)) = false := by decide) (he : starEach (e :: es) X.env = (false, eval e X.env) :: starEach es X.env := by rfl) (hpl : (backTo pos (starEach es X.env)).any (·.1) = false := by rfl) :
    SJ X c W (.Raise (some (.Call (.Name cn pp) (e :: es) [] pos)) none pos') (raiseIS cn fl g) := by
  obtain ⟨C, fI, fd, ps, gC, T, iC, tI, G, hb⟩ := xi.ex
  have T' : L2.OexC X.K C := by rw [hK]; exact T
  refine ⟨raiseIS_mono ha.mono, PS.imp (L2.ps_raise hc tk (L2.pmk_oex (dvs := []) (ds := []) (k := j) (CX := L2.CX X.prog X.w) T' (by rw [hK]; exact iC) (by rw [hK]; exact tI) (by rw [hK, hmg]; exact G) (hr.mono hjk) (by rw [hK]; exact hb) .nil hx hg (by rw [hmg]; exact gC) ha.run hdb he hpl)) ?_⟩
  rintro De σ H ⟨ρ, M, T0, s, q⟩
  refine ⟨ρ, M, T0, s, ha.mono _ _ _ _ _ (fun xs ρ' q vs H' M' as q1 r1 => ?_) (fun x ρ' q => exc_le x ρ' q) q⟩
  split at q
  · rename_i ds eds
    obtain ⟨rs, e0⟩ := r1.allV eds
    subst e0
    have hlv : vs.length = fl.length := rs.length.trans q.1.1
    have hds : ds.length = vs.length := rs.length.symm
    have h100 := q.1.2
    refine ⟨by omega, fun a ha0 => ⟨a, vs ++ [], rfl, by simpa using hlv, L2.upd_same, fun dx hdx ne => ⟨rfl, dx, (fl.zip vs).reverse, L2.upd_same, ?_, ?_, ?_⟩⟩⟩
    · rw [L2.upd_ne ne, L2.upd_same, List.append_nil]
    · rw [L2.upd_ne ne] at hdx
      exact hdx
    · rw [L2.upd_ne ne] at hdx
      have eH : upd (L2.del (upd (upd (upd H' a (L2.exo a C none)) dx (L2.exd dx (fl.zip (vs ++ [])).reverse)) a (L2.exo a C (some dx))) a) dx (.xd (fl.zip vs).reverse) = upd H' dx (.xd (fl.zip vs).reverse) := by
        funext b
        by_cases hb : b = dx
        · rw [hb, L2.upd_same, L2.upd_same]
        · rw [L2.upd_ne hb, L2.upd_ne hb]
          by_cases hba : b = a
          · rw [hba, L2.del_same, ha0]
          · rw [L2.del_ne hba, L2.upd_ne hba, L2.upd_ne hb, L2.upd_ne hba]
      rw [eH]
      have x : Ext H' (upd H' dx (.xd (fl.zip vs).reverse)) := Ext.new hdx
      refine q.2 σ _ _ _ M' (q1.weak.ext x) (.yes gC L2.upd_same ?_ ?_ (rs.ext x).rev)
      · rw [List.map_reverse, zip_fst hlv]
      · rw [List.map_reverse, zip_snd hlv]
  · exact q.elim
end
end VS
set_option Elab.async false
set_option linter.all false
set_option maxRecDepth 100000
set_option maxHeartbeats 4000000
/-! VS24: an __init__ that keeps one, two or three fields; facts of such classes. Own work. -/
namespace VS
open PySem PySem.Spec PyProof.Rows
open L2 (V Hp HO upd SqL SqT Rd Cx TE TT TA TS TG TGs VK XK WX PE PT PA PS PSs PG PGs OpR RelV CallR Sp FnOk atI)
abbrev tIni0 (K : PySem.W.Frag) (m : Str) : TS := L2.tDrop (L2.tVeI K (L2.tCons (L2.tVar 0) (L2.tCons (L2.tC (.str m)) L2.tNil)))
abbrev tIni1 (K : PySem.W.Frag) (m f1 : Str) : TS := L2.tSeq (tIni0 K m) (L2.tOst K f1 (L2.tVar 0) (L2.tVar 1))
section
variable {P : Program} {w : World} {K : PySem.W.Frag} {mg : Str → Option Value} {base : Heap} {cn qual m f1 f2 f3 p1 p2 p3 : Str} {st : Stmt} {C fI : Addr} {fd : FuncData} {kws : List (Str × V)} {dvs : List V}
theorem xini1 (gC : mg cn = some (.ref C)) (T : L2.OexC K C) (iC : PySem.W.findIn K (.ref C) "__init__" = some (some (.ref fI))) (tI : PySem.W.typeIn K (.ref fI) = some (.type "function"))
    (F : L2.FunD K "__init__" qual (L2.defArgs st) (L2.defBody st) (L2.defScope st) dvs kws fI fd) (hbd : L2.Binds K fd ["self", p1] []) (S : L2.FnScope ["self", p1] ["self", p1] (L2.defScope st)) (n1 : PySem.W.findIn K (.ref C) f1 = some none)
    (hb : ∀ (cdv : Value) (A : Around) (outer : List Env) (s : Shared) (H : Hp) (E : XK), PSs (L2.cxOf (L2.CX P w) P w K mg base ["self", p1] qual (L2.defScope st) fI cdv A outer s H E) (L2.defBody st) (tIni1 K m f1)) : XIni P w K mg base 1 cn [f1] := by
  refine ⟨C, fI, fd, ["self", p1], gC, T, iC, tI, F.ok (CX := L2.CX P w) S (fun vs H Q E ⟨a, ys, e, l, _⟩ => by rw [e, List.length_cons, l]; rfl) fun cdv A outer s H vs Q E hr hsp => ⟨_, hb cdv A outer s H E, ?_⟩, hbd⟩
  obtain ⟨a, ys, rfl, hl, ea, go⟩ := hsp
  match ys, hl with
  | [y1], _ => exact ⟨.ref a, rfl, a, C, [.str m], rfl, by simp, T, ea, y1, rfl, .ref a, rfl, a, C, rfl, T, n1, .inl ⟨ea, fun dx hd ne => go dx hd ne⟩⟩
end
/-- facts of a class with such an __init__, of the base -/
inductive Xb where
  | oex (cn : Str)
  | kbs (y : Str)
  | sup (cn m : Str)
def oexB (K : PySem.W.Frag) (C : Addr) : Bool := match K.lookup C with
  | some ⟨.type t, _, .cls cd, sl⟩ => decide (t = "type") && ((match cd.mro, sl.toList with
    | .ref C' :: bm, [_, _, _, _, some (.builtin n), _] => decide (C' = C) && (decide (n = "ValueError.__new__") && PySem.HandSPX.refsVE bm)
    | _, _ => false) && (cd.hasDict && !cd.hasDel))
  | _ => false
def Xb.ok (K : PySem.W.Frag) : Xb → Bool
  | .oex cn => oexB K (He.ga K cn) && (decide (PySem.W.findIn K (.ref (He.ga K cn)) "__setattr__" = some (some (.builtin "object.__setattr__"))) && (decide (PySem.W.subIn K (.ref (He.ga K cn)) (.type "BaseException") = some true) && (decide (PySem.W.typeIn K (.ref (He.ga K cn)) = some (.type "type")) && (PySem.W.keepIn K (.ref (He.ga K cn)) &&
      (decide (PySem.W.findIn K (.ref (He.ga K cn)) "__init__" = some (some (.ref (He.ma K (He.ga K cn) "__init__")))) && decide (PySem.W.typeIn K (.ref (He.ma K (He.ga K cn) "__init__")) = some (.type "function")))))))
  | .kbs y => PySem.W.readsIn K (He.ga K y) (.type "type") && (decide (PySem.W.specialIn K (.ref (He.ga K y)) "__getattribute__" = some (some (.builtin "type.__getattribute__"))) && (match PySem.W.findCls K (.ref (He.ga K y)) (.type "type") "__init__" with
    | some (.val v) => decide (v = .builtin "ValueError.__init__")
    | _ => false))
  | .sup y m => PySem.W.readsIn K (He.ga K y) (.type "type") && (decide (PySem.W.specialIn K (.ref (He.ga K y)) "__getattribute__" = some (some (.builtin "type.__getattribute__"))) && (match PySem.W.findCls K (.ref (He.ga K y)) (.type "type") m with
    | some (.val v) => decide (v = .ref (He.ma K (He.ga K y) m))
    | _ => false))
theorem oexB_ok {K : PySem.W.Frag} {C : Addr} (h : oexB K C = true) : ∃ nm q N bs bm sn sub ab col dd k0 k1 k2 k3 k5, K.lookup C = some (excClassObj nm q C N bs bm true sn sub ab col dd k0 k1 k2 k3 k5 "ValueError.__new__") ∧ PySem.HandSPX.refsVE bm = true := by
  unfold oexB at h
  split at h
  · rename_i t dd cd sl e
    rw [Bool.and_eq_true, Bool.and_eq_true] at h
    obtain ⟨h1, h2, h3⟩ := h
    split at h2
    · rename_i C' bm k0 k1 k2 k3 n k5 em es
      rw [Bool.and_eq_true, Bool.and_eq_true] at h2
      obtain ⟨g1, g2, g3⟩ := h2
      have g1 := of_decide_eq_true g1
      have g2 := of_decide_eq_true g2
      have h1 := of_decide_eq_true h1
      subst g1 g2 h1
      rw [Bool.and_eq_true] at h3
      obtain ⟨nm, bs, mro, ns, qn, hd, sn, sub, ab, col, del⟩ := cd
      dsimp only at em h3
      subst em
      have hd1 := h3.1
      have hd2 : del = false := by simpa using h3.2
      subst hd1 hd2
      have esl : sl = #[k0, k1, k2, k3, some (.builtin "ValueError.__new__"), k5] := by
        obtain ⟨l⟩ := sl
        have es' : l = _ := es
        rw [es']
      subst esl
      exact ⟨nm, qn, ns, bs, bm, sn, sub, ab, col, dd, k0, k1, k2, k3, k5, e, g3⟩
    · cases h2
  · cases h
theorem Xb.oex_ok {K : PySem.W.Frag} {cn : Str} (h : Xb.ok K (.oex cn) = true) : L2.OexC K (He.ga K cn) ∧ PySem.W.findIn K (.ref (He.ga K cn)) "__init__" = some (some (.ref (He.ma K (He.ga K cn) "__init__"))) ∧ PySem.W.typeIn K (.ref (He.ma K (He.ga K cn) "__init__")) = some (.type "function") := by
  unfold Xb.ok at h
  simp only [Bool.and_eq_true, decide_eq_true_eq] at h
  obtain ⟨h1, h2, h3, h4, h5, h6, h7⟩ := h
  exact ⟨⟨oexB_ok h1, h2, h3, h4, h5⟩, h6, h7⟩
theorem kbase_of {K : PySem.W.Frag} {mg : Str → Option Value} {y : Str} (gY : mg y = some (.ref (He.ga K y))) (h : Xb.ok K (.kbs y) = true) : KBase K mg y := by
  unfold Xb.ok at h
  simp only [Bool.and_eq_true, decide_eq_true_eq] at h
  obtain ⟨h1, h2, h3⟩ := h
  refine ⟨_, gY, h1, h2, ?_⟩
  split at h3
  · rename_i v e
    rw [e, of_decide_eq_true h3]
  · cases h3
abbrev AlY : Type := AlX × Bool
/-- what is looked at: the module's, and where the statics stand -/
def asY (g : Addr → Option Obj) (n : Nat) : List Addr := cStatics :: He.asD g n
def SaysY' (fa : List He.Fa) (fn : List He.DefD) (gs : List (Str × D)) (xa : List Xa) (xb : List Xb) (K : PySem.W.Frag) : Prop := SaysX' fa fn gs xa K ∧ xb.all (Xb.ok K) = true
theorem SaysY'.bt {fa : List He.Fa} {fn : List He.DefD} {gs : List (Str × D)} {xa : List Xa} {xb : List Xb} {K : PySem.W.Frag} (c : SaysY' fa fn gs xa xb K) (i : Nat) {x : Xb} (h : xb[i]? = some x) : Xb.ok K x = true := List.all_eq_true.mp c.2 x (List.mem_of_getElem? h)
/-- no exception comes out of an __init__ -/
theorem passes0 {X : Cx} : L2.Passes (L2.CX X.prog X.w) X (fun _ _ _ => False) := fun _ _ _ _ _ _ _ h => by
  obtain ⟨_, _, _, _, _, _, _, _, _, _, _, _, z⟩ := h
  exact z.elim
end VS
set_option Elab.async false
set_option linter.all false
set_option maxRecDepth 100000
set_option maxHeartbeats 4000000
/-! VS66: the facts that a division of great numbers asks for, looked at behind the program's top. Own work. -/
namespace VS
open PySem PySem.Spec PyProof.Rows
open L2 (V Hp HO upd SqL SqT Rd Cx)
/-- a namespace without these names -/
def nsB (K : PySem.W.Frag) (a : Addr) (xs : List Str) : Bool := match K.lookup a with
  | some o => (match o.data with
    | .dict es _ => es.all (fun e => match e.key with | .str _ _ => true | _ => false) && xs.all fun x => (nsFind es x).isNone
    | _ => false)
  | none => false
theorem nsB_ok {K : PySem.W.Frag} {a : Addr} {xs : List Str} (h : nsB K a xs = true) {hp : Heap} (X : K.In hp) : ∃ mc, hp.Ns a mc ∧ ∀ x ∈ xs, mc x = none := by
  unfold nsB at h
  split at h
  · rename_i o eo
    split at h
    · rename_i es ep ed
      rw [Bool.and_eq_true] at h
      have g := X _ _ eo
      have i : hp.isNs a = true := by
        unfold Heap.isNs
        rw [g]
        dsimp only
        rw [ed]
        exact h.1
      refine ⟨_, .of_isNs i, fun x hx => ?_⟩
      have z := List.all_eq_true.mp h.2 x hx
      unfold Heap.nsMap
      rw [g]
      dsimp only
      rw [ed]
      exact Option.isNone_iff_eq_none.mp z
    · cases h
  · cases h
def modB (K : PySem.W.Frag) : Bool := match K.lookup (He.ga K "__builtins__") with
  | some ob => decide (ob.cls = .type "module") && decide (ob.dict = some builtinsNs)
  | none => false
def pyB (K : PySem.W.Frag) : Bool := nsB K cStatics ["sys.audit-hooks", "sys.dict"] && (nsB K sysModules ["_pylong"] && modB K)
theorem pyK_of {P : Program} {K : PySem.W.Frag} {mg : Str → Option Value} (ht : P.given.tree = none) (h : pyB K = true) (gb : mg "__builtins__" = some (.ref (He.ga K "__builtins__"))) : PyK P K mg := by
  unfold pyB at h
  simp only [Bool.and_eq_true] at h
  obtain ⟨h1, h2, h3⟩ := h
  refine ⟨ht, fun hp X => ?_, fun hp X => ?_, ?_⟩
  · obtain ⟨mc, n, q⟩ := nsB_ok h1 X
    exact ⟨mc, n, q _ (by simp), q _ (by simp)⟩
  · obtain ⟨mc, n, q⟩ := nsB_ok h2 X
    exact ⟨mc, n, q _ (by simp)⟩
  · unfold modB at h3
    split at h3
    · rename_i ob e
      rw [Bool.and_eq_true] at h3
      exact ⟨_, ob, gb, e, of_decide_eq_true h3.1, of_decide_eq_true h3.2⟩
    · cases h3
abbrev AlZ : Type := AlY × Bool
def asZ (g : Addr → Option Obj) (n : Nat) : List Addr := sysModules :: asY g n
def obsZ (n : Nat) (fa : List He.Fa) (fn : List He.DefD) (gs : List (Str × D)) (xa : List Xa) (xb : List Xb) (g : Addr → Option Obj) : AlZ :=
  (((He.obsD fa fn (He.frG g (asZ g n)), gs.all (gdG (He.frG g (asZ g n))), xa.all (Xa.ok (He.frG g (asZ g n)))), xb.all (Xb.ok (He.frG g (asZ g n)))), pyB (He.frG g (asZ g n)))
def SaysZ' (fa : List He.Fa) (fn : List He.DefD) (gs : List (Str × D)) (xa : List Xa) (xb : List Xb) (K : PySem.W.Frag) : Prop := SaysY' fa fn gs xa xb K ∧ pyB K = true
def hookZ (n : Nat) (fa : List He.Fa) (fn : List He.DefD) (gs : List (Str × D)) (xa : List Xa) (xb : List Xb) : PySem.W.Hook where
  α := AlZ
  obs := fun s => obsZ n fa fn gs xa xb s.heap.get?
  val := fun _ => (((He.valD fn, true, true), true), true)
  says := fun _ h => ∃ K : PySem.W.Frag, K.In h ∧ SaysZ' fa fn gs xa xb K
  of := fun _ _ e => ⟨_, He.frG_in, ⟨⟨⟨congrArg (fun z : AlZ => z.1.1.1) e, congrArg (fun z : AlZ => z.1.1.2.1) e⟩, congrArg (fun z : AlZ => z.1.1.2.2) e⟩, congrArg (fun z : AlZ => z.1.2) e⟩, congrArg (fun z : AlZ => z.2) e⟩
  keeps := fun _ _ _ ⟨K, hK, c⟩ k => ⟨K, PySem.W.Frag.In.keeps hK k, c⟩
theorem obsZ_eq {n : Nat} {fa : List He.Fa} {fn : List He.DefD} {gs : List (Str × D)} {xa : List Xa} {xb : List Xb} {g : Addr → Option Obj} {s : Shared} (h : ∀ a, g a = s.heap.get? a) : obsZ n fa fn gs xa xb g = (hookZ n fa fn gs xa xb).obs s := by
  have e : g = s.heap.get? := funext h
  rw [e] <;> rfl
end VS
set_option Elab.async false
set_option linter.all false
set_option maxRecDepth 100000
set_option maxHeartbeats 4000000
/-! VS25: list(range(..)), dict displays, slices, sorted ints, int of a bool. Own work. -/
namespace VS
open PySem PySem.Spec PyProof.Rows
open L2 (V Hp HO upd SqL SqT Rd Cx TE TT TA TS TG TGs VK XK WX PE PT PA PS PSs PG PGs OpR RelV CallR Sp FnOk atI)
section
variable {X : Cx} {c : Fr} {W : WX} {p p1 p2 p3 : Bool} {M M' M2 : Addr → Prop} {T T' as as1 as2 : List Addr} {σ : L2.St} {H H' H2 : Hp} {ρ ρ' ρ2 : Rho} {f g h : ES} {pos : Pos}
/-- list(range(n)) -/
def lrE (f : ES) : ES := fun ρ K E => f ρ (fun x ρ' => match x with
  | .v (.int n) => (n ≤ 100000 ∧ -100000 ≤ n) ∧ K (.m (.l (rngD 0 n.toNat))) ρ'
  | _ => False) E
/-! sorted ints -/
def intsD : List D → Option (List Int)
  | [] => some []
  | .int i :: ds => (intsD ds).map (i :: ·)
  | _ :: _ => none
def sortC : CR := fun xs K _ ρ => match xs with
  | [x] => (match (asL x).bind intsD with
    | some is => ∀ js : List Int, js.Perm is → js.Pairwise (· ≤ ·) → K (.m (.l (js.map .int))) ρ
    | none => False)
  | _ => False
/-- int(a truth or an int) -/
def intC : CR := fun xs K _ ρ => match xs with
  | [.v (.bl b)] => K (.v (.int (if b then 1 else 0))) ρ
  | [.v (.int i)] => K (.v (.int i)) ρ
  | _ => False
/-! slices of lists -/
abbrev OS := Rho → (Option Int → Rho → Prop) → (Exc → Rho → Prop) → Prop
def cutD (ds : List D) (lo hi : Option Int) : List D := (ds.drop (HT.sIx ds.length 0 lo)).take (HT.sIx ds.length ds.length hi - HT.sIx ds.length 0 lo)
def intO (p : Bool) (f : Option ES) : OS := match f with
  | none => fun ρ K _ => K none ρ
  | some f => fun ρ K E => f ρ (fun x ρ' => match x with
    | .v (.int i) => K (some i) ρ'
    | _ => False) E
def slE (f : ES) (g h : Option ES) : ES := fun ρ K E => f ρ (fun x ρ1 => intO true g ρ1 (fun i ρ2 => intO true h ρ2 (fun j ρ3 => match asL x with
  | some ds => K (.m (.l (cutD ds i j))) ρ3
  | none => False) E) E) E
end
end VS
set_option Elab.async false
set_option linter.all false
set_option maxRecDepth 100000
set_option maxHeartbeats 4000000
/-! VS28: == of a dict and a tuple. Own work. -/
namespace VS
open PySem PySem.Spec PyProof.Rows PyProof.V PySem.SeqAt
open L2 (V Hp HO upd SqL SqT Rd Cx TE TT TA TS TG TGs VK XK WX PE PT PA PS PSs PG PGs OpR RelV CallR Sp FnOk atI Inv)
section
variable {X : Cx} {c : Fr} {W : WX} {p p1 p2 : Bool}
/-- == : data to be compared, or a dict and a tuple -/
def eqXR : BR := fun x y K E ρ => match asD x, asD y with
  | some (.dct _ _), some (.tup _) => K (.v (.bl false)) ρ
  | some a, some b => (cmpD a = true ∧ cmpD b = true ∧ min (depD a) (depD b) ≤ 100) ∧ K (.v (.bl (eqD a b))) ρ
  | _, _ => False
end
/-! a call that leaves the last argument to its default -/
end VS
set_option Elab.async false
set_option linter.all false
set_option maxRecDepth 100000
set_option maxHeartbeats 4000000
/-! VS29: slices of tuples and lists, tuples put together, a tuple many times. Own work. -/
namespace VS
open PySem PySem.Spec PyProof.Rows
open L2 (V Hp HO upd SqL SqT Rd Cx TE TT TA TS TG TGs VK XK WX PE PT PA PS PSs PG PGs OpR RelV CallR Sp FnOk atI)
section
variable {X : Cx} {c : Fr} {W : WX} {p p1 p2 p3 : Bool} {M M' M2 : Addr → Prop} {T T' as as1 as2 : List Addr} {σ : L2.St} {H H' H2 : Hp} {ρ ρ' ρ2 : Rho} {f g h : ES} {pos : Pos}
def slX (f : ES) (g h : Option ES) : ES := fun ρ K E => f ρ (fun x ρ1 => intO true g ρ1 (fun i ρ2 => intO true h ρ2 (fun j ρ3 => match x with
  | .v (.tup ds) => K (.v (.tup (cutD ds i j))) ρ3
  | x => (match asL x with
    | some ds => K (.m (.l (cutD ds i j))) ρ3
    | none => False)) E) E) E
/-! t + u -/
def addT : BR := fun x y K _ ρ => match x, y with
  | .v (.tup a), .v (.tup b) => a.length + b.length ≤ 100000 ∧ K (.v (.tup (a ++ b))) ρ
  | _, _ => False
/-! t * n -/
def repT : BR := fun x y K _ ρ => match x, y with
  | .v (.tup a), .v (.int n) => (a ≠ [] ∧ 2 ≤ n ∧ n ≤ 1000 ∧ a.length ≤ 1000) ∧ K (.v (.tup (List.replicate n.toNat a).flatten)) ρ
  | _, _ => False
end
end VS
set_option Elab.async false
set_option linter.all false
set_option maxRecDepth 100000
set_option maxHeartbeats 4000000
/-! VS26: an owned list is lent: a statement or a test only looks at it; behind it it is owned as ahead. Own work. -/
namespace VS
open PySem PySem.Spec PyProof.Rows
open L2 (V Hp HO upd SqL SqT Rd Cx TE TT TA TS TG TGs VK XK WX PE PT PA PS PSs PG PGs OpR RelV CallR Sp FnOk atI)
/-- what is left of it may be owned by others than here -/
def okRho : Rho → Bool
  | [] => true
  | .no :: r => okRho r
  | s :: r => retSl s && okRho r
noncomputable def frB (c : Fr) (M : Addr → Prop) (H : Hp) (i : Nat) (a : Addr) (zm : ∀ x, c.Z x → ¬ M x ∧ H x ≠ none) (ha : H a ≠ none) : Fr where
  g := c.g
  Z := fun x => c.Z x ∨ x = a
  H0 := minus (fun x => M x ∧ x ≠ a) H
  io := []
  zd := fun x z => by
    rcases z with z | rfl
    · rw [minus_out fun m => (zm x z).1 m.1]
      exact (zm x z).2
    · rw [minus_out fun m => m.2 rfl]
      exact ha
  zi := fun _ h => absurd h (by simp)
  mask := maskAt c.mask i
  s0 := c.s0.set i (some (.ref a))
section
variable {X : Cx} {c : Fr} {W : WX} {p p1 p2 : Bool} {M M0 M1 M2 M' : Addr → Prop} {T T' as as1 as2 : List Addr} {σ σ1 σ2 : L2.St} {H H0 H1 H' H2 : Hp} {ρ ρ1 ρ' ρ2 : Rho} {i : Nat} {a : Addr} {ds : List D} {vs : List V}
theorem okRho_yes {s : Sl} {r : Rho} (h : okRho (s :: r) = true) : (s = .no ∨ retSl s = true) ∧ okRho r = true := by
  cases s with
  | no => exact ⟨.inl rfl, h⟩
  | _ =>
    have h' : (retSl _ && okRho r) = true := h
    rw [Bool.and_eq_true] at h'
    exact ⟨.inr h'.1, h'.2⟩
theorem RepS.back {g : Ge} {Z Z' : Addr → Prop} (hM : ∀ a, H a ≠ none → ¬ M a → ¬ Z a → ¬ M' a) (hZ : ∀ a, H a ≠ none → ¬ M a → ¬ Z a → ¬ Z' a) : ∀ {σ : L2.St} {ρ : Rho} {Ms : List Addr}, RepS g Z M H σ ρ Ms → okRho ρ = true → ∃ Ms', RepS g Z' M' H σ ρ Ms' ∧ Ms'.Sublist Ms
  | _, _, _, .nil, _ => ⟨[], .nil, List.Sublist.refl _⟩
  | _, _, _, .no r, k => by
    obtain ⟨Ms', r', sb⟩ := r.back hM hZ (okRho_yes k).2
    exact ⟨Ms', .no r', sb⟩
  | _, _, _, .yes (as := as) q r, k => by
    obtain ⟨k1, k2⟩ := okRho_yes k
    obtain ⟨Ms', r', sb⟩ := r.back hM hZ k2
    rcases k1 with rfl | k1
    · cases q
    · exact ⟨as ++ Ms', .yes (q.back hM hZ k1) r', List.Sublist.append (List.Sublist.refl _) sb⟩
/-! ### statements -/
def bkR (i : Nat) (ds : List D) (k : Rho → Prop) : Rho → Prop := fun ρ => (okRho (ρ.set i .no) = true ∧ i < ρ.length) ∧ k (ρ.set i (.l ds))
def borS (i : Nat) (f : SS) : SS := fun ρ k => match ρ[i]? with
  | some (.l ds) => f (ρ.set i (.v (.lst false ds))) ⟨bkR i ds k.nx, fun x ρ' => retEV x = true ∧ bkR i ds (k.rt x) ρ', fun x ρ' => retOks x.ds = true ∧ bkR i ds (k.ex x) ρ', bkR i ds k.bk, bkR i ds k.ct⟩
  | _ => False
/-! ### tests -/
def borT (i : Nat) (t : BS) : BS := fun ρ K E => match ρ[i]? with
  | some (.l ds) => t (ρ.set i (.v (.lst false ds))) (fun b => bkR i ds (K b)) (fun x ρ' => retOks x.ds = true ∧ bkR i ds (E x) ρ')
  | _ => False
end
end VS
set_option Elab.async false
set_option linter.all false
set_option maxRecDepth 100000
set_option maxHeartbeats 4000000
/-! VS27: several except clauses, with a name or without. Own work (the run through the clauses after HandS.TryMany and HandS.Exc). -/
namespace VS
open PySem PySem.Spec PyProof.Rows
open L2 (V Hp HO upd SqL SqT Rd Cx TE TT TA TS TG TGs VK XK WX PE PT PA PS PSs PG PGs OpR RelV CallR Sp FnOk atI Ends Inv Names Takes Zc Sky)
abbrev HT := Addr → Value → Option Addr → TS
/-! the clauses over data -/
abbrev CL := List (Str × Bool) × Option Nat × (Exc → SS)
def suK (k : SK) : Option Nat → SK
  | none => { k with ex := fun _ _ => False }
  | some i => ⟨fun ρ2 => k.nx (ρ2.set i .no), fun ev ρ2 => k.rt ev (ρ2.set i .no), fun _ _ => False, fun ρ2 => k.bk (ρ2.set i .no), fun ρ2 => k.ct (ρ2.set i .no)⟩
def suR (ρ : Rho) : Option Nat → Rho
  | none => ρ
  | some i => ρ.set i .no
def suL (ρ : Rho) : Option Nat → Prop
  | none => True
  | some i => i < ρ.length
def mixH : List CL → SK → Exc → Rho → Prop
  | [], k, x, ρ => k.ex x ρ
  | (L, o, g) :: r, k, x, ρ => match lookB L x.cn with
    | some true => suL ρ o ∧ g x (suR ρ o) (suK k o)
    | some false => mixH r k x ρ
    | none => False
def tryMixS (cs : List CL) (f : SS) : SS := fun ρ k => f ρ { k with ex := mixH cs k }
section
variable {X : Cx} {c : Fr} {W : WX}
/-- the clauses of a program and what they do to data -/
inductive MixOk (X : Cx) (c : Fr) : List ExceptHandler → List CL → Prop
  | nil : MixOk X c [] []
  | only {y : Str} {b₀ : Stmt} {suite : List Stmt} {np pos' : Pos} {L : List (Str × Bool)} {g : SS} {hds : List ExceptHandler} {cs : List CL} (hgl : L2.Gl X y) (hg : MonoS g) (p0 : Str × Bool) (L' : List (Str × Bool)) (hL : L = p0 :: L') (xm : ∀ p ∈ L, XM c.g.K c.g.mg p.1 y p.2)
      (hsu : ∀ (a : Addr) (oe : Obj) (pn : List (Addr × Obj)), SJs (X.suite a ((a, oe) :: pn)) c W0 (b₀ :: suite) g) (hdb : (y == ("__debug__" : Str)) = false) (r : MixOk X c hds cs) :
      MixOk X c (.ExceptHandler (some (.Name y np)) none (b₀ :: suite) pos' :: hds) ((L, none, fun _ => g) :: cs)
  | as {y n : Str} {i : Nat} {b₀ : Stmt} {suite : List Stmt} {np pos' : Pos} {L : List (Str × Bool)} {g : Exc → SS} {hds : List ExceptHandler} {cs : List CL} (hi : X.N[i]? = some n) (hln : X.env.kindOf n = some .local) (hm : c.mask[i]? ≠ some true) (hgl : L2.Gl X y) (hg : ∀ x, MonoS (g x)) (p0 : Str × Bool) (L' : List (Str × Bool)) (hL : L = p0 :: L') (xm : ∀ p ∈ L, XM c.g.K c.g.mg p.1 y p.2)
      (hsu : ∀ (a : Addr) (oe : Obj) (cls : Value) (d : Option Addr) (pn : List (Addr × Obj)) (M0 : Addr → Prop) (H0 : Hp) (x : Exc) (h : XIn c M0 H0 i a cls d x), L2.Zc cls d oe → (∃ vs, oe.data = .fields vs) → SJs (X.suite a ((a, oe) :: pn)) (frX c M0 H0 i a h.zm) W0 (b₀ :: suite) (g x)) (hdb : (y == ("__debug__" : Str)) = false) (r : MixOk X c hds cs) :
      MixOk X c (.ExceptHandler (some (.Name y np)) (some n) (b₀ :: suite) pos' :: hds) ((L, some i, g) :: cs)
theorem MixOk.mono : ∀ {hds : List ExceptHandler} {cs : List CL}, MixOk X c hds cs → ∀ p ∈ cs, ∀ x, MonoS (p.2.2 x)
  | _, _, .nil, p, hp => absurd hp (by simp)
  | _, _, .only _ hg _ _ _ _ _ _ r, p, hp => by
    rcases List.mem_cons.mp hp with rfl | hp
    · exact fun _ => hg
    · exact r.mono p hp
  | _, _, .as _ _ _ _ hg _ _ _ _ _ _ r, p, hp => by
    rcases List.mem_cons.mp hp with rfl | hp
    · exact hg
    · exact r.mono p hp
end
end VS
set_option Elab.async false
set_option linter.all false
set_option maxRecDepth 100000
set_option maxHeartbeats 4000000
/-! VS30: list comprehensions whose item changes what is owned. Own work. -/
namespace VS
open PySem PySem.Spec PyProof.Rows
open L2 (V Hp HO upd SqL SqT Rd Cx TE TT TA TS TG TGs TI It VK XK WX PE PT PTs PA PS PSs PG PGs PI OpR RelV CallR Sp FnOk atI wipe)
def compDx (vs : List Nat) (g : GS) (f : ES) : Rho → List D → List D → (List D → Rho → Prop) → Prop
  | ρ, [], acc, K => K acc ρ
  | ρ, d :: ds, acc, K => g (.v d) ρ (fun ρ1 => f ρ1 (fun x ρ3 => match evD x with
      | some e => compDx vs g f (wipeR ρ3 vs) ds (acc ++ [e]) K
      | none => False) (fun _ _ => False))
def compX (vs : List Nat) (it : IS) (g : GS) (f : ES) : ES := fun ρ K E => it ρ (fun ds ρ1 => ds.length ≤ 1000000 ∧ compDx vs g f (wipeR ρ1 vs) ds [] (fun out ρ2 => K (.m (.l out)) ρ2)) E
end VS
set_option Elab.async false
set_option linter.all false
set_option maxRecDepth 100000
set_option maxHeartbeats 4000000
/-! VS31: != of lists of the same data, dicts and tuples among it. Own work. -/
namespace VS
open PySem PySem.Spec PyProof.Rows PyProof.V PySem.SeqAt
open MeetsSeq MeetsSeq2 MeetsSeq3 SeqRoads2
open L2 (V Hp HO upd SqL SqT Rd Cx TE TT TA TS TG TGs VK XK WX PE PT PA PS PSs PG PGs OpR RelV CallR Sp FnOk atI Inv)
mutual
/-- data of which the same is equal: keys all apart -/
def samD : D → Bool
  | .tup ds => samDs ds
  | .lst _ ds => samDs ds
  | .dct ks ds => decide ks.Nodup && samDs ds
  | .ty _ => false
  | .fn _ => false
  | _ => true
def samDs : List D → Bool
  | [] => true
  | d :: ds => samD d && samDs ds
end
mutual
def hgtD : D → Nat
  | .tup ds => hgtDs ds + 1
  | .lst _ ds => hgtDs ds + 1
  | .dct _ ds => hgtDs ds + 1
  | _ => 1
def hgtDs : List D → Nat
  | [] => 0
  | d :: ds => max (hgtD d) (hgtDs ds)
end
def flatD : D → Bool
  | .non => true
  | .bl _ => true
  | .int _ => true
  | .str _ => true
  | _ => false
theorem Reps.put : ∀ {g : Ge} {Z M : Addr → Prop} {H : Hp} {vs : List V} {ds : List D}, Reps g Z M H vs ds → ∀ {i : Nat} {d : D}, ds[i]? = some d → ∃ v, vs[i]? = some v ∧ Rep g Z M H v d
  | _, _, _, _, _, _, .nil, _, _, e => by simp at e
  | _, _, _, _, _, _, .cons r rs, 0, _, e => by cases e; exact ⟨_, rfl, r⟩
  | _, _, _, _, _, _, .cons r rs, i + 1, _, e => rs.put (by simpa using e)
section
variable {X : Cx} {c : Fr} {W : WX} {p p1 p2 : Bool}
/-- != of any data, the same lists and dicts that hold dicts among it -/
def neYR : BR := fun x y K E ρ => match x, y with
  | .v (.lst _ d1), .v (.lst _ d2) => ((d1 = d2 ∧ samDs d1 = true ∧ hgtDs d1 ≤ 60) ∧ K (.v (.bl false)) ρ) ∨ eqR true x y K E ρ
  | .v (.dct k1 d1), .v (.dct k2 d2) => (d1 = d2 ∧ k1 = k2 ∧ k1.Nodup ∧ ∀ d ∈ d1, flatD d = true) ∧ K (.v (.bl false)) ρ
  | x, y => eqR true x y K E ρ
end
end VS
set_option Elab.async false
set_option linter.all false
set_option maxRecDepth 100000
set_option maxHeartbeats 4000000
/-! VS32: list(reversed(a list)). Own work. -/
namespace VS
open PySem PySem.Spec PyProof.Rows PyProof.V
open L2 (V Hp HO upd SqL SqT Rd Cx TE TT TA TS TG TGs VK XK WX PE PT PA PS PSs PG PGs OpR RelV CallR Sp FnOk atI Inv)
section
variable {X : Cx} {c : Fr} {W : WX} {p : Bool} {pos pos' : Pos}
def lrevE (f : ES) : ES := fun ρ K E => f ρ (fun x ρ' => match asL x with
  | some ds => K (.m (.l ds.reverse)) ρ'
  | none => False) E
end
end VS
set_option Elab.async false
set_option linter.all false
set_option maxRecDepth 100000
set_option maxHeartbeats 4000000
/-! VS33: an owned tuple compared, and a list in it changed. Own work. -/
namespace VS
open PySem PySem.Spec PyProof.Rows
open L2 (V Hp HO upd SqL SqT Rd Cx TE TT TA TS TG TGs VK XK WX PE PT PA PS PSs PG PGs OpR RelV CallR Sp FnOk atI)
section
variable {X : Cx} {c : Fr} {W : WX} {p p1 p2 : Bool} {M M1 M' M2 : Addr → Prop} {T T' as as1 as2 : List Addr} {σ σ1 : L2.St} {H H1 H' H2 : Hp} {ρ ρ1 ρ' ρ2 : Rho}
def heldR (i : Nat) (ρ : Rho) : Prop := match ρ[i]? with
  | some .no => False
  | some _ => True
  | none => False
/-- name == e, name != e: what the name holds, its own or not -/
def cmpO (neg : Bool) (i : Nat) (g : ES) : ES := fun ρ K E => heldR i ρ ∧ g ρ (fun y ρ2 => match ρ2[i]? with
  | some s => (match frSl s, asD y with
    | some a, some b => (cmpD a = true ∧ cmpD b = true ∧ min (depD a) (depD b) ≤ 100) ∧ K (.v (.bl (if neg then !eqD a b else eqD a b))) ρ2
    | _, _ => False)
  | none => False) E
/-! a list that nobody else holds is changed -/
/-- e.append(n), e a list that nobody else holds -/
def appT (f : ES) (n : Int) : ES := fun ρ K E => f ρ (fun x ρ1 => match x with
  | .m (.l ds) => ds.length < 1000000 ∧ K (.v .non) ρ1
  | _ => False) E
end
end VS
set_option Elab.async false
set_option linter.all false
set_option maxRecDepth 100000
set_option maxHeartbeats 4000000
/-! VS34: in and not in, of lists of data. Own work. -/
namespace VS
open PySem PySem.Spec PyProof.Rows
open L2 (V Hp HO upd SqL SqT Rd Cx TE TT TA TS TG TGs VK XK WX PE PT PA PS PSs PG PGs OpR RelV CallR Sp FnOk atI)
section
variable {X : Cx} {c : Fr} {W : WX} {p p1 p2 : Bool}
def rInP (K : PySem.W.Frag) (neg : Bool) : L2.R2 := fun x y H Q => ∃ d ds, L2.Dp K H x d ∧ L2.Dp K H y (.list ds) ∧ d.plain = true ∧ PyData.plainAll ds = true ∧ min (PyData.depthAll ds) d.depth ≤ 60 ∧ Q (.bl (if neg then !(ds.any fun z => PyData.eqv z d) else ds.any fun z => PyData.eqv z d)) H
theorem op_notInP (hu : X.A.units + 128 < cLine) : OpR X (compareOp .NotIn) (rInP X.K true) := by
  intro pins s σ H x y v u Q I rx ry h
  obtain ⟨d, ds, hd, he, sd, se, hm, q⟩ := h
  obtain ⟨as, r1⟩ := L2.Dp.reads I d x v hd rx
  obtain ⟨bs, r2⟩ := L2.Dp.reads I (.list ds) y u he ry
  exact SeqAt.notIn_list_data r2 r1 se sd (by omega) ⟨.bl _, H, I, rfl, q⟩
theorem pys_any {a : D} (ha : cmpD a = true) : ∀ ds : List D, cmpDs ds = true → ((pys ds).any fun z => PyData.eqv z (py a)) = ds.any fun z => eqD z a
  | [], _ => rfl
  | d :: ds, h => by
    rw [cmpDs, Bool.and_eq_true] at h
    rw [pys, List.any_cons, List.any_cons, py_eqv d a h.1 ha, pys_any ha ds h.2]
def inR (neg : Bool) : BR := fun x y K _ ρ => match asD x, asD y with
  | some a, some (.lst _ ds) => (cmpD a = true ∧ cmpDs ds = true ∧ min (depDs ds) (depD a) ≤ 60) ∧ K (.v (.bl (if neg then !(ds.any fun z => eqD z a) else ds.any fun z => eqD z a))) ρ
  | _, _ => False
theorem inR_mono {neg : Bool} : MonoR (inR neg) := fun x y ρ K K' E E' hk _ h => by
  unfold inR at h ⊢
  split at h
  · exact ⟨h.1, hk _ _ h.2⟩
  · exact h
theorem inR_says {neg : Bool} (hK : X.K = c.g.K) : Says c (rInP X.K neg) (inR neg) := by
  intro p σ M T H M2 H2 ρ2 as1 as2 v u x y Q E q r1 r2 h
  unfold inR at h
  split at h
  · rename_i a st ds ea eb
    obtain ⟨⟨ca, cb, dp⟩, k⟩ := h
    have cb' : cmpD (.lst st ds) = true := cb
    have e2 : py (.lst st ds) = .list (pys ds) := by rw [py]
    refine ⟨py a, pys ds, hK ▸ r1.dp ea ca, hK ▸ e2 ▸ r2.dp eb cb', py_plain a, ?_, by rw [py_depth, pys_depth]; exact dp, ?_⟩
    · have := py_plain (.lst st ds)
      rw [e2] at this
      simpa [PyData.plain] using this
    · rw [pys_any ca ds cb]
      exact k _ H2 M2 [] q.drop.drop (.v (.bl _))
  · exact h.elim
section
variable {a b : Expr} {f g : ES} {pos : Pos}
theorem tj_notin (hK : X.K = c.g.K) (hu : X.A.units + 128 < cLine) (ha : EJ X c W p1 a f) (hb : EJ X c W p2 b g) (hm : behindInMarks .NotIn b = false := by rfl) : TJ X c W (p1 && p2) (.Compare a [.NotIn] [b] pos) (bT (bin p2 f g (inR true))) := tj_cmp (op_notInP hu) inR_mono (inR_says hK) hm ha hb
end
end
end VS
set_option Elab.async false
set_option linter.all false
set_option maxRecDepth 100000
set_option maxHeartbeats 4000000
/-! VS35: what an owned object holds: paths of fields, read and changed. Own work. -/
namespace VS
open PySem PySem.Spec PyProof.Rows
open L2 (V Hp HO upd SqL SqT Rd Cx TE TT TA TS TG TGs TI It VK XK WX PE PT PA PS PSs PG PGs PI OpR RelV CallR Sp FnOk atI MtR)
/-- a path of fields, the last one first: class, field -/
abbrev RP := List (Str × Str)
section
variable {g : Ge} {Z M M' : Addr → Prop} {H H' : Hp}
theorem RepOs.at : ∀ {vs : List V} {ss : List Sl} {as : List Addr} {j : Nat} {s1 : Sl}, RepOs g Z M H vs ss as → ss[j]? = some s1 →
    ∃ v1 as1 l r, vs[j]? = some v1 ∧ RepO g Z M H v1 s1 as1 ∧ as = l ++ as1 ++ r ∧ ∀ (ch M' : Addr → Prop) (H' : Hp) (w : V) (x : Sl) (as' : List Addr), Moved ch M M' H H' → (∀ a ∈ l ++ r, ¬ ch a) → RepO g Z M' H' w x as' → RepOs g Z M' H' (vs.set j w) (ss.set j x) (l ++ as' ++ r)
  | _, _, _, _, _, .nil, e => by simp at e
  | _, _, _, 0, s1, .cons (v := v) (as := a1) (bs := bs) r rs, e => by
    simp at e
    subst e
    refine ⟨v, a1, [], bs, rfl, r, by simp, fun ch M' H' w x as' m hc rx => ?_⟩
    simp only [List.set_cons_zero, List.nil_append]
    exact .cons rx (rs.moved m fun a h => hc a (by simpa using h))
  | _, _, _, j + 1, s1, .cons (v := v) (as := a1) (bs := bs) r rs, e => by
    obtain ⟨v1, as1, l, r', h1, h2, h3, h4⟩ := rs.at (j := j) (s1 := s1) (by simpa using e)
    refine ⟨v1, as1, a1 ++ l, r', by simpa using h1, h2, by rw [h3]; simp, fun ch M' H' w x as' m hc rx => ?_⟩
    simp only [List.set_cons_succ, List.append_assoc]
    have := RepOs.cons (r.moved m fun a h => hc a (by simp [h])) (h4 ch M' H' w x as' m (fun a h => hc a (by
      rcases List.mem_append.mp h with h | h <;> simp [h])) rx)
    simpa using this
end
end VS
set_option Elab.async false
set_option linter.all false
set_option maxRecDepth 100000
set_option maxHeartbeats 4000000
/-! VS36: lists that an owned object holds, changed; methods; objects made. Own work. -/
namespace VS
open PySem PySem.Spec PyProof.Rows
open L2 (V Hp HO upd SqL SqT Rd Cx TE TT TA TS TG TGs TI It VK XK WX PE PT PA PS PSs PG PGs PI OpR RelV CallR Sp FnOk atI MtR)
/-- the method m of the class cn keeps the promise F, within k calls -/
structure MDef (P : Program) (w : World) (K : PySem.W.Frag) (mg : Str → Option Value) (base : Heap) (k : Nat) (cn m : Str) (ps : List Str) (mask : List Bool) (F : FS) : Prop where
  ex : ∃ C f fd, FnOk P w K mg base (L2.CX P w) k f fd ps (spV ⟨K, mg⟩ mask F) ∧ mg cn = some (.ref C) ∧ L2.Cls K C ∧ L2.Meth K C m f ∧ L2.Binds K fd ps []
  mono : MonoF F
  len : ∀ ss K E, F ss K E → ss.length = mask.length
/-- .. without what its callers ask besides -/
structure MDefR (P : Program) (w : World) (K : PySem.W.Frag) (mg : Str → Option Value) (base : Heap) (k : Nat) (cn m : Str) (ps : List Str) (mask : List Bool) (F : FS) : Prop where
  ex : ∃ C f fd, FnOk P w K mg base (L2.CX P w) k f fd ps (spV ⟨K, mg⟩ mask F) ∧ mg cn = some (.ref C) ∧ L2.Cls K C ∧ L2.Meth K C m f ∧ L2.Binds K fd ps []
section
variable {P : Program} {w : World} {K : PySem.W.Frag} {mg : Str → Option Value} {base : Heap}
theorem MDefR.def {k : Nat} {cn m : Str} {ps : List Str} {mask : List Bool} {F F' : FS} (d : MDefR P w K mg base k cn m ps mask F) (hm : MonoF F') (h : ∀ ss K E, F' ss K E → F ss K E) (hl : ∀ ss K E, F ss K E → ss.length = mask.length) : MDef P w K mg base k cn m ps mask F' := by
  obtain ⟨C, f, fd, G, h1⟩ := d.ex
  exact ⟨⟨C, f, fd, G.imp (spV_imp h), h1⟩, hm, fun ss K E q => hl ss K E (h ss K E q)⟩
end
end VS
set_option Elab.async false
set_option linter.all false
set_option maxRecDepth 100000
set_option maxHeartbeats 4000000
/-! VS37: methods called, objects made. Own work. -/
set_option Elab.async false
set_option linter.all false
set_option maxRecDepth 100000
set_option maxHeartbeats 4000000
/-! VS38: a part of a held tuple looked at. Own work. -/
namespace VS
open PySem PySem.Spec PyProof.Rows
open L2 (V Hp HO upd SqL SqT Rd Cx TE TT TA TS TG TGs TI It VK XK WX PE PT PA PS PSs PG PGs PI OpR RelV CallR Sp FnOk atI MtR)
section
variable {X : Cx} {c : Fr} {W : WX} {i : Nat} {j : Int}
variable {p : Bool} {M M' : Addr → Prop} {T T' : List Addr} {σ : L2.St} {H H' : Hp} {ρ ρ' : Rho}
theorem SR.perm (s : SR c M T σ H ρ) (pm : T'.Perm T) : SR c M T' σ H ρ := by
  obtain ⟨Ms, rs, nd, al⟩ := s.slots
  have pm : (Ms ++ T').Perm (Ms ++ T) := List.Perm.append_left _ pm
  exact ⟨⟨Ms, rs, pm.nodup_iff.mpr nd, fun a ha => al a (pm.mem_iff.mp ha)⟩, s.ty, s.src, s.keep, s.pin, s.ln⟩
end
end VS
set_option Elab.async false
set_option linter.all false
set_option maxRecDepth 100000
set_option maxHeartbeats 4000000
/-! VS49: a list in a held tuple changed, the tuple stays held. Own work. -/
set_option Elab.async false
set_option linter.all false
set_option maxRecDepth 100000
set_option maxHeartbeats 4000000
/-! VS67: a list of owned things: made by a display, its items read, changed by a call. Own work. -/
namespace VS
open PySem PySem.Spec PyProof.Rows
open L2 (V Hp HO upd SqL SqT Rd Cx TE TT TA TS TG TGs TI It VK XK WX PE PT PA PS PSs PG PGs PI OpR RelV CallR Sp FnOk atI MtR)
section
variable {X : Cx} {c : Fr} {W : WX} {p p1 p2 : Bool} {M M1 M' M2 : Addr → Prop} {T T' as as1 as2 : List Addr} {σ σ1 : L2.St} {H H1 H' H2 : Hp} {ρ ρ1 ρ' ρ2 : Rho} {i : Nat} {rp : RP}
/-- a part of what a slot owns; and what comes of changing it -/
theorem Post.lens {s s1 : Sl} {st : Sl → Sl} {P : V → V → Prop} (q : Post c p σ M T H M1 (as ++ T) H1 ρ1) (e : ρ1[i]? = some s) (sno : s ≠ .no)
    (path : ∀ {v : V} {aI : List Addr}, RepO c.g c.Z M1 H1 v s aI → ∃ v1 as1 l r, RepO c.g c.Z M1 H1 v1 s1 as1 ∧ aI = l ++ as1 ++ r ∧ P v v1 ∧
      ∀ (ch M' : Addr → Prop) (H' : Hp) (x : Sl) (as' : List Addr), Moved ch M1 M' H1 H' → (∀ a ∈ l ++ r, ¬ ch a) → RepO c.g c.Z M' H' v1 x as' → RepO c.g c.Z M' H' v (st x) (l ++ as' ++ r)) :
    ∃ v v1 as1, σ[i]? = some (some v) ∧ P v v1 ∧ RepO c.g c.Z M1 H1 v1 s1 as1 ∧ as1.Nodup ∧ (∀ a ∈ as1, M1 a ∧ a ∉ as ∧ a ∉ T) ∧ (∀ a ∈ as, M1 a ∧ a ∉ T) ∧ as.Nodup ∧
      ∀ (H2 : Hp) (ras ias : List Addr) (x : Sl), (∀ b o, H1 b = some o → b ∉ as1 → H2 b = some o) → (ras ++ ias).Nodup → (∀ a ∈ ras ++ ias, a ∈ as1 ∨ a ∈ as ∨ H1 a = none) → (∀ a ∈ ras ++ ias, Typed H2 a) →
        RepO c.g c.Z (fun a => (M1 a ∧ a ∉ as ∧ a ∉ as1) ∨ a ∈ ras ++ ias) H2 v1 x ias →
        Post c false σ M T H (fun a => (M1 a ∧ a ∉ as ∧ a ∉ as1) ∨ a ∈ ras ++ ias) (ras ++ T) H2 (ρ1.set i (st x)) := by
  obtain ⟨Ms, rS, nd, al⟩ := q.sr.slots
  obtain ⟨v, asI, Ms', h1, h2, h3, h4, h5, h6⟩ := rS.out e sno
  obtain ⟨ndI1, ndI2, ndI3⟩ := h6 (List.nodup_append.mp nd).1
  obtain ⟨nd1, nd2, nd3⟩ := List.nodup_append.mp nd
  obtain ⟨nd4, nd5, nd6⟩ := List.nodup_append.mp nd2
  obtain ⟨v1, as1, l, r, k1, k2, k3, k4⟩ := path h2
  have hi : i < ρ1.length := (List.getElem?_eq_some_iff.mp e).1
  have inI : ∀ a, a ∈ l ∨ a ∈ as1 ∨ a ∈ r → a ∈ asI := fun a h => by
    rw [k2]; rcases h with h | h | h <;> simp [h]
  have sI : as1.Nodup ∧ (∀ a ∈ l ++ r, a ∉ as1) ∧ (l ++ r).Nodup := by
    rw [k2] at ndI1
    obtain ⟨n1, n2, n3⟩ := List.nodup_append.mp ndI1
    obtain ⟨m1, m2, m3⟩ := List.nodup_append.mp n1
    refine ⟨m2, fun a ha hb => ?_, List.nodup_append.mpr ⟨m1, n2, fun a ha b hb => n3 a (List.mem_append_left _ ha) b hb⟩⟩
    rcases List.mem_append.mp ha with ha | ha
    · exact m3 a ha a hb rfl
    · exact n3 a (List.mem_append_right _ hb) a ha rfl
  have inM : ∀ a ∈ asI, M1 a ∧ a ∉ as ∧ a ∉ T := fun a h => ⟨al a (List.mem_append_left _ (h4 a h)), fun z => nd3 a (h4 a h) a (List.mem_append_left _ z) rfl, fun z => nd3 a (h4 a h) a (List.mem_append_right _ z) rfl⟩
  refine ⟨v, v1, as1, h1, k3, k1, sI.1, fun a h => inM a (inI a (.inr (.inl h))), fun a h => ⟨al a (List.mem_append_right _ (List.mem_append_left _ h)), fun z => nd6 a h a z rfl⟩, nd4, fun H2 ras ias x keep n2 new ty rt => ?_⟩
  have in1 : ∀ a ∈ as1, M1 a ∧ a ∉ as ∧ a ∉ T := fun a h => inM a (inI a (.inr (.inl h)))
  have mv : Moved (fun a => a ∈ as1) M1 (fun a => (M1 a ∧ a ∉ as ∧ a ∉ as1) ∨ a ∈ ras ++ ias) H1 H2 := by
    refine ⟨fun b o eb hb => keep b o eb hb, fun a h => q.sr.ty a (in1 a h).1, fun a h => (in1 a h).1, fun a h => ?_⟩
    rcases h with h | h
    · exact .inl h.1
    · rcases new a h with z | z | z
      · exact .inl (in1 a z).1
      · exact .inl (al a (List.mem_append_right _ (List.mem_append_left _ z)))
      · exact .inr z
  have rest := h3.moved mv fun a h z => ndI3 a (inI a (.inr (.inl z))) h
  have ro := k4 _ _ H2 x ias mv sI.2.1 rt
  obtain ⟨Ms2, r3, m2, k5⟩ := RepS.put ro rest (i := i) (by rw [List.length_set]; exact hi)
  rw [List.set_set, set_get h1] at r3
  have dj : ∀ a ∈ ras ++ ias, a ∉ Ms' ∧ a ∉ T ∧ a ∉ l ++ r := fun a h => by
    rcases new a h with z | z | z
    · exact ⟨ndI3 a (inI a (.inr (.inl z))), (in1 a z).2.2, fun y => sI.2.1 a y z⟩
    · refine ⟨fun y => nd3 a (h5 a y) a (List.mem_append_left _ z) rfl, fun y => nd6 a z a y rfl, fun y => ?_⟩
      have : a ∈ asI := by rcases List.mem_append.mp y with y | y <;> exact inI a (by simp [y])
      exact (inM a this).2.1 z
    · have nm : ¬ M1 a := fun y => (q.sr.ty a y).ne z
      refine ⟨fun y => nm (al a (List.mem_append_left _ (h5 a y))), fun y => nm (al a (List.mem_append_right _ (List.mem_append_right _ y))), fun y => ?_⟩
      have : a ∈ asI := by rcases List.mem_append.mp y with y | y <;> exact inI a (by simp [y])
      exact nm (inM a this).1
  obtain ⟨n3, n4, n5⟩ := List.nodup_append.mp n2
  have ndR : (l ++ ias ++ r).Nodup := by
    obtain ⟨w1, w2, w3⟩ := List.nodup_append.mp sI.2.2
    refine List.nodup_append.mpr ⟨List.nodup_append.mpr ⟨w1, n4, fun a ha b hb e => (dj b (List.mem_append_right _ hb)).2.2 (by rw [← e]; simp [ha])⟩, w2, fun a ha b hb e => ?_⟩
    subst e
    rcases List.mem_append.mp ha with ha | ha
    · exact w3 a ha a hb rfl
    · exact (dj a (List.mem_append_right _ ha)).2.2 (by simp [hb])
  have inR : ∀ a ∈ l ++ ias ++ r, a ∈ asI ∧ a ∉ as1 ∨ a ∈ ras ++ ias := fun a h => by
    rcases List.mem_append.mp h with h | h
    · rcases List.mem_append.mp h with h | h
      · exact .inl ⟨inI a (.inl h), sI.2.1 a (by simp [h])⟩
      · exact .inr (List.mem_append_right _ h)
    · exact .inl ⟨inI a (.inr (.inr h)), sI.2.1 a (by simp [h])⟩
  have nd7 : Ms2.Nodup := k5 ndI2 ndR fun a h y => by
    rcases inR a h with z | z
    · exact ndI3 a z.1 y
    · exact (dj a z).1 y
  have in2 : ∀ a ∈ Ms2, (a ∈ Ms' ∨ a ∈ asI) ∧ a ∉ as1 ∨ a ∈ ias := fun a h => by
    rcases m2 a h with y | y
    · exact .inl ⟨.inl y, fun z => ndI3 a (inI a (.inr (.inl z))) y⟩
    · rcases List.mem_append.mp y with y | y
      · rcases List.mem_append.mp y with y | y
        · exact .inl ⟨.inr (inI a (.inl y)), sI.2.1 a (by simp [y])⟩
        · exact .inr y
      · exact .inl ⟨.inr (inI a (.inr (.inr y))), sI.2.1 a (by simp [y])⟩
  have out : ∀ a, a ∈ Ms' ∨ a ∈ asI → M1 a ∧ a ∉ as ∧ a ∉ T := fun a h => by
    rcases h with h | h
    · exact ⟨al a (List.mem_append_left _ (h5 a h)), fun w => nd3 a (h5 a h) a (List.mem_append_left _ w) rfl, fun w => nd3 a (h5 a h) a (List.mem_append_right _ w) rfl⟩
    · exact inM a h
  refine ⟨⟨⟨Ms2, r3, ?_, fun a h => ?_⟩, fun a h => ?_, fun a h => ?_, fun b o eb hb => ?_, q.sr.pin, q.sr.ln⟩, fun b o eb hb => ?_, fun a h => ?_, fun e => nomatch e⟩
  · refine List.nodup_append.mpr ⟨nd7, List.nodup_append.mpr ⟨n3, nd5, fun a h b hb e => (dj a (List.mem_append_left _ h)).2.1 (e ▸ hb)⟩, fun a h b hb e => ?_⟩
    subst e
    rcases List.mem_append.mp hb with z | z
    · rcases m2 a h with y | y
      · exact (dj a (List.mem_append_left _ z)).1 y
      · rcases List.mem_append.mp y with y | y
        · rcases List.mem_append.mp y with y | y
          · exact (dj a (List.mem_append_left _ z)).2.2 (by simp [y])
          · exact n5 a z a y rfl
        · exact (dj a (List.mem_append_left _ z)).2.2 (by simp [y])
    · rcases in2 a h with y | y
      · exact (out a y.1).2.2 z
      · exact (dj a (List.mem_append_right _ y)).2.1 z
  · rcases List.mem_append.mp h with z | z
    · rcases in2 a z with y | y
      · exact .inl ⟨(out a y.1).1, (out a y.1).2.1, y.2⟩
      · exact .inr (List.mem_append_right _ y)
    · rcases List.mem_append.mp z with z | z
      · exact .inr (List.mem_append_left _ z)
      · exact .inl ⟨al a (List.mem_append_right _ (List.mem_append_right _ z)), fun w => nd6 a w a z rfl, fun w => (in1 a w).2.2 z⟩
  · rcases h with h | h
    · rcases q.sr.ty a h.1 with ⟨_, e⟩ | ⟨_, _, _, e⟩ | ⟨_, e⟩
      · exact .inl ⟨_, keep _ _ e h.2.2⟩
      · exact .inr (.inl ⟨_, _, _, keep _ _ e h.2.2⟩)
      · exact .inr (.inr ⟨_, keep _ _ e h.2.2⟩)
    · exact ty a h
  · rcases h with h | h
    · exact q.sr.src a h.1
    · rcases new a h with z | z | z
      · exact q.sr.src a (in1 a z).1
      · exact q.sr.src a (al a (List.mem_append_right _ (List.mem_append_left _ z)))
      · by_cases y : a ∈ c.io
        · exact .inl y
        · refine .inr ?_
          cases e : c.H0 a with
          | none => rfl
          | some u => have := q.sr.keep a u e y; rw [z] at this; cases this
  · refine keep b o (q.sr.keep b o eb hb) fun z => ?_
    rcases q.sr.src b (in1 b z).1 with y | y
    · exact hb y
    · rw [y] at eb; cases eb
  · refine keep b o (q.keep b o eb hb) fun z => ?_
    rcases q.new b (in1 b z).1 with y | y
    · exact (in1 b z).2.2 (hb y)
    · rw [y] at eb; cases eb
  · rcases h with h | h
    · exact q.new a h.1
    · rcases new a h with z | z | z
      · exact q.new a (in1 a z).1
      · exact q.new a (al a (List.mem_append_right _ (List.mem_append_left _ z)))
      · by_cases y : M a
        · exact .inl y
        · refine .inr ?_
          cases e : H a with
          | none => rfl
          | some u => have := q.keep a u e fun w => absurd w y; rw [z] at this; cases this
/-- a slot's thing is taken out, and put back -/
theorem SR.outs {s1 : Sl} (s : SR c M T σ H ρ) (e : ρ[i]? = some s1) (n : s1 ≠ .no) : ∃ v aI, σ[i]? = some (some v) ∧ RepO c.g c.Z M H v s1 aI ∧ SR c M (aI ++ T) σ H (ρ.set i .no) := by
  obtain ⟨Ms, r, nd, al⟩ := s.slots
  obtain ⟨v, as, Ms', h1, h2, h3, h4, h5, h6⟩ := r.out e n
  obtain ⟨k1, k2, k3⟩ := h6 (List.nodup_append.mp nd).1
  refine ⟨v, as, h1, h2, ⟨⟨Ms', h3, ?_, fun a ha => ?_⟩, s.ty, s.src, s.keep, s.pin, s.ln⟩⟩
  · obtain ⟨_, n2, n3⟩ := List.nodup_append.mp nd
    refine List.nodup_append.mpr ⟨k2, List.nodup_append.mpr ⟨k1, n2, fun a ha b hb e => n3 a (h4 a ha) b hb e⟩, fun a ha b hb e => ?_⟩
    rcases List.mem_append.mp hb with hb | hb
    · exact k3 b hb (e ▸ ha)
    · exact n3 a (h5 a ha) b hb e
  · rcases List.mem_append.mp ha with ha | ha
    · exact al a (List.mem_append_left _ (h5 a ha))
    · rcases List.mem_append.mp ha with ha | ha
      · exact al a (List.mem_append_left _ (h4 a ha))
      · exact al a (List.mem_append_right _ ha)
theorem Post.back {v : V} {s1 : Sl} {aI : List Addr} (q : Post c p σ M (aI ++ T) H M1 (as ++ (aI ++ T)) H1 ρ1) (r : RepO c.g c.Z M1 H1 v s1 aI) (hv : σ[i]? = some (some v)) (hi : i < ρ1.length) : Post c false σ M T H M1 (as ++ T) H1 (ρ1.set i s1) := by
  obtain ⟨Ms, rs, nd, al⟩ := q.sr.slots
  obtain ⟨n1, n2, n3⟩ := List.nodup_append.mp nd
  obtain ⟨m1, m2, m3⟩ := List.nodup_append.mp n2
  obtain ⟨l1, l2, l3⟩ := List.nodup_append.mp m2
  obtain ⟨Ms', rs', h1, h2⟩ := RepS.put r rs hi
  rw [set_get hv] at rs'
  refine ⟨⟨⟨Ms', rs', ?_, fun a ha => ?_⟩, q.sr.ty, q.sr.src, q.sr.keep, q.sr.pin, q.sr.ln⟩, fun b o e h => q.keep b o e fun z => List.mem_append_right _ (h z), q.new, fun e => nomatch e⟩
  · refine List.nodup_append.mpr ⟨h2 n1 l1 fun a ha z => n3 a z a (List.mem_append_right _ (List.mem_append_left _ ha)) rfl, List.nodup_append.mpr ⟨m1, l2, fun a ha b hb e => m3 a ha b (List.mem_append_right _ hb) e⟩, fun a ha b hb e => ?_⟩
    rcases h1 a ha with z | z
    · rcases List.mem_append.mp hb with hb | hb
      · exact n3 a z b (List.mem_append_left _ hb) e
      · exact n3 a z b (List.mem_append_right _ (List.mem_append_right _ hb)) e
    · rcases List.mem_append.mp hb with hb | hb
      · exact m3 b hb a (List.mem_append_left _ z) e.symm
      · exact l3 a z b hb e
  · rcases List.mem_append.mp ha with z | z
    · rcases h1 a z with z | z
      · exact al a (List.mem_append_left _ z)
      · exact al a (List.mem_append_right _ (List.mem_append_right _ (List.mem_append_left _ z)))
    · rcases List.mem_append.mp z with z | z
      · exact al a (List.mem_append_right _ (List.mem_append_left _ z))
      · exact al a (List.mem_append_right _ (List.mem_append_right _ (List.mem_append_right _ z)))
end
/-! ### [e, ..]: a list of owned things -/
/-! ### xs[k] -/
/-! ### xs[e].pop(0) -/
/-! ### f(xs[e], ..) of a def that changes the item -/
end VS
set_option Elab.async false
set_option linter.all false
set_option maxRecDepth 100000
set_option maxHeartbeats 4000000
/-! VS77: dicts whose keys are tuples of whole numbers: {}, d.setdefault(k, []).append(v), for k, v in d.items(). Own work. -/
namespace VS
open PySem PySem.Spec PyProof.Rows
open L2 (V Hp HO upd SqL SqT Rd Cx TE TT TA TS TG TGs TI It VK XK WX PE PT PA PS PSs PG PGs PI PIE OpR RelV CallR Sp FnOk atI MtR Vals ObjOk Turn)
abbrev KB := List (List Int × Addr × Addr)
def valX (kb : KB) (k : List Int) : Option Addr := (kb.find? fun x => decide (x.1 = k)).map fun x => x.2.2
def rawX (kb : KB) : List (List Int × Addr × Value) := kb.map fun x => (x.1, x.2.1, .ref x.2.2)
theorem atKey_raw (kb : KB) (k : List Int) : (atKey (rawX kb) k).map (·.2) = (valX kb k).map .ref := by
  induction kb with
  | nil => rfl
  | cons x kb ih =>
    unfold atKey rawX valX at *
    by_cases e : x.1 = k
    · simp [e]
    · simpa [e] using ih
theorem items_ints {P : Program} {w : World} : ∀ {k : List Int} {its : List Value}, Vals (k.map V.int) its → ItemsAre (PySem.intKind P w) k its
  | [], _, .nil => .nil
  | i :: k, _, .cons r rs => by
    obtain ⟨t, rfl⟩ := r
    exact .cons (show Value.isInt i (.int i t) = true by simp [Value.isInt]) (items_ints rs)
section
variable {X : Cx} {pins : List (Addr × Obj)} {σ : L2.St} {H : Hp} {s : Shared} {a : Addr} {A : Around} {E : Value → Shared → Prop}
theorem key_ints {b : Addr} {k : List Int} (I : L2.Inv X pins σ H s) (h : SqT X.K H b (k.map V.int)) : (tupleKind (PySem.intKind X.prog X.w)).is s.heap k b := by
  obtain ⟨its, r, ⟨o, h1, h2, n, h3⟩, _⟩ := I.tuple h
  exact ⟨o, its.toArray, n, h1, h2, h3, by simpa using items_ints r⟩
theorem dX_of {kb : KB} {h : Heap} {H : Hp} {P : Program} {w : World} (x : dXin a kb h) (hk : ∀ x ∈ kb, (tupleKind (PySem.intKind P w)).is h x.1 x.2.1) : (a == sysModules) = false ∧ h.DictOfH (tupleKind (PySem.intKind P w)) a (rawX kb) := by
  obtain ⟨hd, P', w', o, es, ep, h1, h2, h3, h4, h5⟩ := x
  refine ⟨hd, o, es, ep, h1, h2, h3, ?_, fun y hy => ?_, ?_⟩
  · rw [h4, rawX, List.map_map]
    rfl
  · obtain ⟨z, hz, rfl⟩ := List.mem_map.mp hy
    exact hk z hz
  · rw [rawX, List.map_map]
    exact h5
theorem dX_in {kb : KB} {h : Heap} {P : Program} {w : World} (hd : (a == sysModules) = false) (x : h.DictOfH (tupleKind (PySem.intKind P w)) a (rawX kb)) : dXin a kb h := by
  obtain ⟨o, es, ep, h1, h2, h3, h4, _, h5⟩ := x
  refine ⟨hd, P, w, o, es, ep, h1, h2, h3, ?_, ?_⟩
  · rw [h4, rawX, List.map_map]
    rfl
  · rw [rawX, List.map_map] at h5
    exact h5
theorem dX_ok {kb : KB} {h : Heap} {H : Hp} {P : Program} {w : World} (x : dXin a kb h) : ObjOk P w H h a (dX a kb) := by
  refine ⟨x, ?_, fun h1 h2 y k => ?_⟩
  · obtain ⟨_, _, _, o, _, _, h1, _⟩ := x
    exact ⟨o, h1⟩
  · obtain ⟨hd, P', w', o, es, ep, h1, r⟩ := y
    exact ⟨hd, P', w', o, es, ep, k o h1, r⟩
theorem dX_at {kb : KB} (I : L2.Inv X pins σ H s) (e : H a = some (dX a kb)) : dXin a kb s.heap := (I.hok a _ e).1
theorem d_setX {kb : KB} {k : List Int} {b p : Addr} {Q : Value → Shared → Prop} (hu : A.units + 1 < cLine) (I : L2.Inv X pins σ H s) (e : H a = some (dX a kb)) (hk : ∀ x ∈ kb, SqT X.K H x.2.1 (x.1.map V.int)) (eb : SqT X.K H b (k.map V.int)) (hl : kb.length ≤ sizeLine)
    (h1 : ∀ v, valX kb k = some v → ∀ s', L2.Inv X pins σ H s' → Q (.ref v) s') (h2 : valX kb k = none → ∀ s', L2.Inv X pins σ (upd H a (dX a (kb ++ [(k, b, p)]))) s' → (∃ h, dXin a (kb ++ [(k, b, p)]) h) → Q (.ref p) s') :
    wpAny (model X.prog X.w) A (call (.builtin "dict.setdefault") [.ref a, .ref b, .ref p]) Q E s := by
  obtain ⟨hd, dd⟩ := dX_of (P := X.prog) (w := X.w) (H := H) (dX_at I e) fun x hx => key_ints I (hk x hx)
  have hz : (rawX kb).length ≤ sizeLine := by rw [rawX, List.length_map]; exact hl
  have q := atKey_raw kb k
  refine call_setdefault_heap (hsz := hz) (tupleKind_room_in1 hu) (key_ints I eb) hd dd (fun v hv => ?_) fun hn h' dd' hs => ?_
  · rw [hv] at q
    cases e2 : valX kb k with
    | none => rw [e2] at q; cases q
    | some z =>
      rw [e2] at q
      simp only [Option.map_some, Option.some.injEq] at q
      rw [q]
      exact h1 z e2 _ (I.tok _)
  · rw [hn] at q
    cases e2 : valX kb k with
    | some z => rw [e2] at q; cases q
    | none =>
      rw [storedH_new hn] at dd'
      have dd2 : h'.DictOfH (tupleKind (PySem.intKind X.prog X.w)) a (rawX (kb ++ [(k, b, p)])) := by
        rw [rawX, List.map_append]
        exact dd'
      have he : ∃ q, h'.get? a = some q := let ⟨q, _, _, hq, _⟩ := dd'; ⟨q, hq⟩
      exact h2 e2 _ (L2.d_write I (by rw [e]; exact True.intro) hs he (dX_ok (dX_in hd dd2))) ⟨h', dX_in hd dd2⟩
end
/-! ### d.setdefault(k, z) -/
def tSetX (K : PySem.W.Frag) (td ty tz : TE) : TE := fun σ H Q => td σ H fun x H1 => ∃ a kb0, x = .ref a ∧ H1 a = some (dX a kb0) ∧ ty σ H1 fun y H2 => tz σ H2 fun z H3 => ∃ (kb : KB) (k : List Int) (b p : Addr), H3 a = some (dX a kb) ∧ y = .ref b ∧ z = .ref p ∧
  (∀ x ∈ kb, SqT K H3 x.2.1 (x.1.map V.int)) ∧ SqT K H3 b (k.map V.int) ∧ kb.length ≤ sizeLine ∧ (∀ v, valX kb k = some v → (∃ h, dXin a kb h) → Q (.ref v) H3) ∧ (valX kb k = none → (∃ h, dXin a (kb ++ [(k, b, p)]) h) → Q (.ref p) (upd H3 a (dX a (kb ++ [(k, b, p)]))))
section
variable {X : Cx} {o e f : Expr} {td ty tz : TE} {apos cpos : Pos}
theorem pe_setX (hu : X.A.units + 128 < cLine) (ho : PE X o td) (he : PE X e ty) (hf : PE X f tz) (m : L2.M2 X o "setdefault" apos e f cpos) : PE X (.Call (.Attribute o "setdefault" apos) [e, f] [] cpos) (tSetX X.K td ty tz) := by
  refine ⟨fun pins s σ H Q I h => ?_⟩
  refine wpAny_Call_method m.base m.few m.line PySem.F.plainAttrs_dict PySem.F.slot_dict_setdefault PySem.F.type_dict_setdefault (L2.thn (ho.run pins s σ H _ I h) fun u s1 ⟨x, H1, I1, rx, a, kb0, ex, e0, q1⟩ => ?_)
  subst ex
  obtain rfl : u = Value.ref a := rx
  obtain ⟨_, _, _, ob, _, _, g1, g2, _⟩ := dX_at I1 e0
  refine ⟨⟨ob, g1, g2.1⟩, fun b q => ?_, ?_⟩
  · cases q
    exact ⟨ob, g1, g2.2.1⟩
  rw [m.trees]
  refine Calls.callWith_builtin rfl (Calls.evalArgs_plain (Calls.spliced_cons (L2.thn (he.run pins s1 σ H1 _ I1 q1) fun iv s2 ⟨y, H2, I2, ry, q2⟩ =>
    Calls.spliced_cons (L2.thn (hf.run pins s2 σ H2 _ I2 q2) fun fv s3 ⟨z, H3, I3, rz, kb, k, b, p, ea, ey, ez, hk, hb, hl, q3, q4⟩ => Calls.spliced_nil ?_))))
  subst ey ez
  obtain rfl : iv = Value.ref b := ry
  obtain rfl : fv = Value.ref p := rz
  exact d_setX (by show X.A.units + 1 < cLine; omega) I3 ea hk hb hl (fun v hv s4 I4 => ⟨.ref v, _, I4, rfl, q3 v hv ⟨_, dX_at I3 ea⟩⟩) fun hn s4 I4 hh => ⟨.ref p, _, I4, rfl, q4 hn hh⟩
/-! ### {} -/
theorem pe_dnewX {pos : Pos} : PE X (.Dict [] [] pos) (fun _ H Q => ∀ p, H p = none → Q (.ref p) (upd H p (dX p []))) := ⟨fun pins s σ H Q I h =>
  wpAny_Dict_empty ⟨.ref s.heap.objs.size, _, I.laid (a := s.heap.objs.size) (o := dX s.heap.objs.size []) (t' := s.toks) (fun _ _ q => Heap.get?_push_of_some _ q) (Nat.le_refl _)
    (dX_ok ⟨beq_eq_false_iff_ne.mpr (Ne.symm (Nat.ne_of_lt I.big)), X.prog, X.w, _, #[], 0, Heap.get?_push_size _ rfl, ⟨rfl, rfl, rfl⟩, rfl, rfl, List.nodup_nil⟩), rfl, h _ (I.hok.fresh (Nat.le_refl _))⟩⟩
end
/-! ### for k, v in d.items() -/
/-- the pairs of the locked dict, each a new tuple -/
def ItX (d : Addr) (o : Obj) (kb : KB) : It :=
  ⟨fun i H => H d = some (.frz o (dX d kb)) ∧ i < kb.length, fun i H x H' => ∃ T k q b, kb[i]? = some (k, q, b) ∧ x = .ref T ∧ H T = none ∧ H' = upd H T (.tup [.ref q, .ref b]), fun i H => H d = some (.frz o (dX d kb)) ∧ kb.length ≤ i⟩
theorem dX_frz {X : Cx} {pins : List (Addr × Obj)} {σ : L2.St} {H : Hp} {s : Shared} {d : Addr} {o : Obj} {kb : KB} (I : L2.Inv X pins σ H s) (h : H d = some (.frz o (dX d kb))) :
    (d == sysModules) = false ∧ ∃ es ep, o.data = .dict es ep ∧ DT.Raw s.heap d es ep ∧ es.size = kb.length ∧ ∀ (i : Nat) (hi : i < es.size) (x : List Int × Addr × Addr), kb[i]? = some x → es[i].key = .ref x.2.1 ∧ es[i].val = .ref x.2.2 := by
  obtain ⟨hg, ⟨hd, P, w, o', es, ep, h1, h2, h3, h4, h5⟩, _⟩ := I.hok d _ h
  rw [hg] at h1
  cases h1
  refine ⟨hd, es, ep, h3, ⟨o, hg, h2, h3⟩, ?_, fun i hi x e => ?_⟩
  · rw [← Array.length_toList, h4, List.length_map]
  · have q : es.toList[i]? = (kb.map (fun x => entryOfKey (tupleKind (PySem.intKind P w)) (x.1, x.2.1, .ref x.2.2)))[i]? := by rw [h4]
    rw [List.getElem?_map, e, Array.getElem?_toList, Array.getElem?_eq_getElem hi] at q
    simp only [Option.map_some, Option.some.injEq] at q
    rw [q]
    exact ⟨rfl, rfl⟩
theorem turn_itemsX {P : Program} {w : World} {K : PySem.W.Frag} {d : Addr} {o : Obj} {es : Array DictEntry} {ep : Nat} {kb : KB} {elts : List Expr} {kk : Nat} {tpos : Pos} (it : Addr) (hod : o.data = .dict es ep) :
    Turn P w K (.Tuple elts kk tpos) (ItX d o kb) [it] it (fun i h => ∃ ok ov, IsItemIter h it d i kb.length ep ok ov) where
  mem := by simp
  obj := fun i h st b hb => by
    have e : b = it := by simpa using hb
    subst e
    obtain ⟨ok, ov, e⟩ := st
    exact ⟨_, e, fun v z => nomatch z⟩
  keep := fun i h h' st k => let ⟨ok, ov, e⟩ := st; ⟨ok, ov, k it (by simp) _ e⟩
  item := by
    intro X hP hw hK hc i pins s σ H E I hf st hg
    subst hP hw hK
    obtain ⟨hd, hi⟩ := hg
    obtain ⟨hs, es', ep', hdt, raw, hsz, ent⟩ := dX_frz I hd
    obtain ⟨rfl, rfl⟩ := L2.dict_ep hod hdt
    obtain ⟨⟨k, q, b⟩, hkv⟩ : ∃ p, kb[i]? = some p := ⟨kb[i], List.getElem?_eq_getElem hi⟩
    obtain ⟨ok, ov, he⟩ := st
    rw [← hsz] at he
    have hlt : it < s.heap.objs.size := Heap.lt_size he
    have hi' : i < es'.size := by rw [hsz]; exact hi
    obtain ⟨ek, ev⟩ := ent i hi' _ hkv
    refine DT.nextI he raw hi' fun h' ho hT hz hk => ?_
    refine ⟨_, rfl, wpAny_letOwnedTupleGo_items (s := { s with heap := h' }) ho fun h'' he' sb => ?_⟩
    rw [ek, ev] at hT
    have hT2 : h''.get? s.heap.objs.size = some { cls := .type "tuple", data := .seq #[.ref q, .ref b] } := (sb.2 _ (Nat.ne_of_gt hlt)).trans hT
    have new : ObjOk X.prog X.w (upd H s.heap.objs.size (.tup [.ref q, .ref b])) h'' s.heap.objs.size (.tup [.ref q, .ref b]) :=
      ⟨by show 2 ≤ sizeLine; decide, [.ref q, .ref b], .cons rfl (.cons rfl .nil), ⟨_, hT2, rfl, _, rfl⟩⟩
    have I1 : L2.Inv X pins σ (upd H s.heap.objs.size (.tup [.ref q, .ref b])) { s with heap := h'' } :=
      I.turnedNew (t' := s.toks) (ch := [it]) (fun b ob hb e => (sb.2 b (by simpa using hb)).trans (hk b ob (by simpa using hb) e)) hf (Nat.le_refl _) new
    refine ⟨.ref s.heap.objs.size, _, I1, rfl, ⟨_, k, q, b, hkv, rfl, I.hok.fresh (Nat.le_refl _), rfl⟩, ⟨es'[i].key, es'[i].val, ?_⟩, fun b hb => ?_⟩
    · rw [← hsz]; exact he'
    · have e : b = it := by simpa using hb
      rw [e, L2.upd_ne (Nat.ne_of_lt hlt)]
      exact (hf it (by simp)).1
  done := by
    intro X hP hw hK hc i pins s σ H E I hf st hg
    subst hP hw hK
    obtain ⟨hd, hi⟩ := hg
    obtain ⟨f0, f1, f2, f3, f4, f5⟩ := hf it (by simp)
    obtain ⟨hs, es', ep', hdt, raw, hsz, ent⟩ := dX_frz I hd
    obtain ⟨rfl, rfl⟩ := L2.dict_ep hod hdt
    obtain ⟨ok, ov, he⟩ := st
    rw [← hsz] at he
    exact DT.endI (I.ok.hd hc) he raw (by omega) fun h' eb => ⟨rfl, I.turned (t' := s.toks) (fun b ob hb e => eb b ob hb e) f0 f1 f3 f4 f5⟩
  self := fun A i s Q E st h => let ⟨_, _, e⟩ := st; PySem.W.kcp_self e h
def iItX (td : TE) : TI := fun σ H R => td σ H fun x H1 => ∃ d kb, x = .ref d ∧ H1 d = some (dX d kb) ∧ ∀ o, R (ItX d o kb) (upd H1 d (.frz o (dX d kb)))
theorem pi_itemsX {X : Cx} {e : Expr} {td : TE} {apos cpos : Pos} {elts : List Expr} {kk : Nat} {tpos : Pos} (he : PE X e td) (hbase : attributeBase e "items" X.env (eval e X.env) = eval e X.env := by rfl) (hline : (apos.endLine == cpos.line) = true := by rfl) :
    PI X (.Tuple elts kk tpos) (.Call (.Attribute e "items" apos) [] [] cpos) (iItX td) := by
  refine ⟨fun pins s σ H R I h => ?_⟩
  refine wpAny_Call_method (T := "dict") (id := "dict.items") hbase rfl hline PySem.F.plainAttrs_dict PySem.F.slot_dict_items PySem.F.type_dict_items (L2.thn (he.run pins s σ H _ I h) fun u s1 ⟨x, H1, I1, rx, d, kb, ex, hd, q⟩ => ?_)
  subst ex
  obtain rfl : u = Value.ref d := rx
  obtain ⟨od, I1'⟩ := I1.lock hd True.intro
  obtain ⟨hs, es, ep, hdt, raw, hsz, ent⟩ := dX_frz I1' L2.upd_same
  obtain ⟨_, _, _, ob, _, _, g1, g2, _⟩ := dX_at I1 hd
  refine ⟨⟨ob, g1, g2.1⟩, fun b q => ?_, ?_⟩
  · cases q
    exact ⟨ob, g1, g2.2.1⟩
  have I2 : L2.Inv X pins σ (upd H1 d (.frz od (dX d kb))) { s1 with heap := s1.heap.push { cls := .type "dict_items", data := .fields #[.ref d] } } := I1'.kept (t' := s1.toks) fun b ob q => Heap.get?_push_of_some _ q
  have fin : wpAny (model X.prog X.w) X.A (pyIter (.ref s1.heap.objs.size)) (PIE X pins σ (.Tuple elts kk tpos) R) X.xe { s1 with heap := s1.heap.push { cls := .type "dict_items", data := .fields #[.ref d] } } := by
    refine DT.iterI (d := d) ⟨_, Heap.get?_push_size _ rfl, rfl, rfl⟩ (raw.push _) (L2.pi_one (tk := s1.toks) I2 _ (turn_itemsX _ hdt) ⟨.none, .none, ?_⟩ (q od))
    rw [← hsz]
    exact Heap.get?_push_size _ rfl
  show wpAny _ _ (callWith cpos (.builtin "dict.items") [.ref d] [] []) _ X.xe s1
  exact method_meetsIn PySem.F.slot_dict_items PySem.F.entry_dict_items rfl (PySem.evalArgs_none ⟨rfl, ⟨ob, g1, g2.1⟩, PySem.F.args_dict_items_1 _, _, DT.meetsItems (es := es) (ep := ep) hs, raw, fin⟩)
end VS
set_option Elab.async false
set_option linter.all false
set_option maxRecDepth 100000
set_option maxHeartbeats 4000000
/-! VS78: dicts with keys of whole numbers in a slot. Own work. -/
namespace VS
open PySem PySem.Spec PyProof.Rows
open L2 (V Hp HO upd SqL SqT Rd Cx TE TT TA TS TG TGs TI It VK XK WX PE PT PA PS PSs PG PGs PI PIE OpR RelV CallR Sp FnOk atI MtR Vals ObjOk Turn)
theorem dX_inj {a : Addr} {kb kb' : KB} (hh : ∃ h, dXin a kb h) (e : dX a kb = dX a kb') : (kb.map fun x => V.ref x.2.2) = kb'.map fun x => V.ref x.2.2 := by
  obtain ⟨h, x⟩ := hh
  have e' : dXin a kb = dXin a kb' := by injection e
  have x' : dXin a kb' h := e' ▸ x
  obtain ⟨_, _, _, o, es, ep, h1, _, h3, h4, _⟩ := x
  obtain ⟨_, _, _, o', es', ep', g1, _, g3, g4, _⟩ := x'
  rw [h1] at g1
  cases g1
  obtain ⟨rfl, rfl⟩ := L2.dict_ep h3 g3
  rw [h4] at g4
  have q := congrArg (List.map fun en : DictEntry => en.val) g4
  rw [List.map_map, List.map_map] at q
  have inj2 : ∀ {l l' : KB}, (l.map fun x => Value.ref x.2.2) = (l'.map fun x => Value.ref x.2.2) → (l.map fun x => V.ref x.2.2) = l'.map fun x => V.ref x.2.2 := by
    intro l
    induction l with
    | nil => intro l' h; cases l' with
      | nil => rfl
      | cons _ _ => cases h
    | cons x l ih => intro l' h; cases l' with
      | nil => cases h
      | cons y l' =>
        simp only [List.map_cons, List.cons.injEq, Value.ref.injEq] at h
        simp only [List.map_cons, List.cons.injEq]
        exact ⟨by rw [h.1], ih h.2⟩
  exact inj2 q
/-! ### the plain side -/
def intsK : List D → Option (List Int)
  | [] => some []
  | .int i :: ds => (intsK ds).map (i :: ·)
  | _ => none
def keyT : D → Option (List Int)
  | .tup ds => intsK ds
  | _ => none
theorem intsK_is : ∀ {ds : List D} {k : List Int}, intsK ds = some k → ds = k.map .int
  | [], k, e => by rw [intsK] at e; cases e; rfl
  | .int i :: ds, k, e => by
    rw [intsK] at e
    obtain ⟨k', e1, rfl⟩ := Option.map_eq_some_iff.mp e
    rw [intsK_is e1] <;> rfl
  | .non :: _, _, e => nomatch e
  | .bl _ :: _, _, e => nomatch e
  | .str _ :: _, _, e => nomatch e
  | .ty _ :: _, _, e => nomatch e
  | .fn _ :: _, _, e => nomatch e
  | .tup _ :: _, _, e => nomatch e
  | .lst _ _ :: _, _, e => nomatch e
  | .dct _ _ :: _, _, e => nomatch e
theorem keyT_is : ∀ {d : D} {k : List Int}, keyT d = some k → d = keyD k
  | .tup _, _, e => by rw [keyD, ← intsK_is e]
  | .non, _, e => nomatch e
  | .bl _, _, e => nomatch e
  | .int _, _, e => nomatch e
  | .str _, _, e => nomatch e
  | .ty _, _, e => nomatch e
  | .fn _, _, e => nomatch e
  | .lst _ _, _, e => nomatch e
  | .dct _ _, _, e => nomatch e
def posK : List (List Int) → List Int → Option Nat
  | [], _ => none
  | x :: xs, k => if x = k then some 0 else (posK xs k).map (· + 1)
def putD (ks : List (List Int)) (ss : List Sl) (k : List Int) : List (List Int) × List Sl × Nat := match posK ks k with
  | some j => (ks, ss, j)
  | none => (ks ++ [k], ss ++ [.l []], ss.length)
theorem posK_some : ∀ {kb : KB} {k : List Int} {j : Nat}, posK (kb.map (·.1)) k = some j → ∃ x, kb[j]? = some x ∧ valX kb k = some x.2.2
  | [], k, j, e => by cases e
  | x :: kb, k, j, e => by
    rw [List.map_cons, posK] at e
    split at e
    · rename_i h
      cases e
      exact ⟨x, rfl, by simp [valX, h]⟩
    · rename_i h
      obtain ⟨j', e1, rfl⟩ := Option.map_eq_some_iff.mp e
      obtain ⟨y, h1, h2⟩ := posK_some e1
      refine ⟨y, by simpa using h1, ?_⟩
      unfold valX at h2 ⊢
      simpa [h] using h2
theorem posK_none : ∀ {kb : KB} {k : List Int}, posK (kb.map (·.1)) k = none → valX kb k = none
  | [], k, e => rfl
  | x :: kb, k, e => by
    rw [List.map_cons, posK] at e
    split at e
    · cases e
    · rename_i h
      have := posK_none (Option.map_eq_none_iff.mp e)
      unfold valX at this ⊢
      simpa [h] using this
section
variable {g : Ge} {Z M M' : Addr → Prop} {H H' : Hp}
theorem repsK_ints : ∀ {vs : List V} {k : List Int}, Reps g Z M H vs (k.map .int) → vs = k.map V.int
  | _, [], .nil => rfl
  | _, i :: k, .cons r rs => by
    cases r
    rw [repsK_ints rs] <;> rfl
theorem rep_key {v : V} {k : List Int} (r : Rep g Z M H v (keyD k)) : ∃ b, v = .ref b ∧ SqT g.K H b (k.map V.int) := by
  cases r with
  | tup l rs => rw [repsK_ints rs] at l; exact ⟨_, rfl, l⟩
theorem keys_sq : ∀ {kb : KB}, Reps g Z M H (kb.map fun x => .ref x.2.1) (kb.map fun x => keyD x.1) → ∀ x ∈ kb, SqT g.K H x.2.1 (x.1.map V.int)
  | [], _, _, h => by cases h
  | y :: kb, .cons r rs, x, h => by
    rcases List.mem_cons.mp h with rfl | h
    · obtain ⟨b, e, q⟩ := rep_key r
      cases e
      exact q
    · exact keys_sq rs x h
theorem RepOs.snocK : ∀ {vs : List V} {ss : List Sl} {as : List Addr} {v : V} {s : Sl} {bs : List Addr}, RepOs g Z M H vs ss as → RepO g Z M H v s bs → RepOs g Z M H (vs ++ [v]) (ss ++ [s]) (as ++ bs)
  | _, _, _, _, _, _, .nil, r => by simpa using RepOs.cons r .nil
  | _, _, _, _, _, _, .cons r0 rs, r => by
    rw [List.append_assoc]
    exact .cons r0 (rs.snocK r)
theorem RepO.dtel {v : V} {ks : List (List Int)} {ss : List Sl} {as : List Addr} {j : Nat} {s1 : Sl} (r0 : RepO g Z M H v (.dt ks ss) as) (e : ss[j]? = some s1) :
    ∃ v1 as1 l r, RepO g Z M H v1 s1 as1 ∧ as = l ++ as1 ++ r ∧ (∃ a kb, v = .ref a ∧ H a = some (dX a kb) ∧ (kb.map fun x => V.ref x.2.2)[j]? = some v1 ∧ a ∈ l) ∧
      ∀ (ch M' : Addr → Prop) (H' : Hp) (x : Sl) (as' : List Addr), Moved ch M M' H H' → (∀ b ∈ l ++ r, ¬ ch b) → RepO g Z M' H' v1 x as' → RepO g Z M' H' v (.dt ks (ss.set j x)) (l ++ as' ++ r) := by
  cases r0 with
  | @dt a kb _ _ as0 hH hn hw rs =>
  obtain ⟨v1, as1, l, r, h1, h2, h3, h4⟩ := rs.at (j := j) (s1 := s1) e
  refine ⟨v1, as1, a :: l, r, h2, by rw [h3]; simp, ⟨a, kb, rfl, hH, h1, by simp⟩, fun ch M' H' x as' m hc rx => ?_⟩
  have rs' := h4 ch M' H' v1 x as' m (fun b hb => hc b (by
    rcases List.mem_append.mp hb with hb | hb <;> simp [hb])) rx
  rw [set_get h1] at rs'
  simpa using RepO.dt (m.keep _ _ hH (hc a (by simp))) hn (hw.moved m) rs'
end
/-- {} -/
def dnE : ES := fun ρ K _ => K (.m (.dt [] [])) ρ
/-- x.setdefault(k, []).append(v) -/
def sdE (i : Nat) (h g : ES) : ES := fun ρ K E => (∃ ks ss, ρ[i]? = some (.dt ks ss)) ∧ h ρ (fun y ρ1 => match y, ρ1[i]? with
  | .v d, some (.dt ks ss) => (match keyT d with
    | some k => ks.length < 1000 ∧ (match putD ks ss k with
      | (ks', ss', j) => (match ss'[j]? with
        | some (.l ds) => g (ρ1.set i .no) (fun x ρ2 => match evD x, ρ2[i]? with
          | some d2, some _ => ds.length < 1000000 ∧ K (.v .non) (ρ2.set i (.dt ks' (ss'.set j (.l (ds ++ [d2])))))
          | _, _ => False) E
        | _ => False))
    | none => False)
  | _, _ => False) E
/-- d.items() -/
def itDt (f : ES) : IS := fun ρ K E => f ρ (fun x ρ' => match x with
  | .m (.dt ks ss) => (match frSls ss with
    | some ds => K (zipd (ks.map keyD) ds) ρ'
    | none => False)
  | _ => False) E
section
variable {X : Cx} {c : Fr} {W : WX} {p p1 p2 : Bool} {M M1 M' M2 MB : Addr → Prop} {T T' as as1 as2 : List Addr} {σ σ1 : L2.St} {H H1 H' H2 HB : Hp} {ρ ρ1 ρ' ρ2 ρB : Rho} {i j : Nat}
theorem ej_dnew {pos : Pos} : EJ X c W p (.Dict [] [] pos) dnE := by
  refine ⟨fun ρ K K' E E' hk he q => hk _ _ q, PE.imp pe_dnewX ?_⟩
  rintro σ H Q ⟨ρ, M, T, s, k⟩ pa hp
  exact k _ _ _ [pa] ((Post.refl s).own hp (.inr (.inr ⟨_, L2.upd_same⟩))) (.m (.dt (kb := []) L2.upd_same rfl .nil .nil))
theorem sdE_mono {h g : ES} (hh : Mono h) (hg : Mono g) : Mono (sdE i h g) := fun ρ K K' E E' hk he q => ⟨q.1, hh _ _ _ _ _ (fun y ρ1 q => by
  split at q
  · split at q
    · refine ⟨q.1, ?_⟩
      have q2 := q.2
      dsimp only at q2 ⊢
      split at q2
      · refine hg _ _ _ _ _ (fun x ρ2 q => ?_) he q2
        split at q
        · exact ⟨q.1, hk _ _ q.2⟩
        · exact q
      · exact q2
    · exact q
  · exact q) he q.2⟩
theorem setd_fin {g : ES} {a b' : Addr} {ks : List (List Int)} {ss : List Sl} {ds : List D} {Q : VK} (hg : Mono g) (hv : σ[i]? = some (some (.ref a))) (qB : Post c false σ M T H MB T HB ρB) (eB : ρB[i]? = some (.dt ks ss)) (ej : ss[j]? = some (.l ds))
    (hb : ∀ kb, HB a = some (dX a kb) → (kb.map fun x => V.ref x.2.2)[j]? = some (.ref b'))
    (k : g (ρB.set i .no) (fun x ρ2 => match evD x, ρ2[i]? with
      | some d2, some _ => ds.length < 1000000 ∧ (∀ v H' M' as, Post c false σ M T H M' (as ++ T) H' (ρ2.set i (.dt ks (ss.set j (.l (ds ++ [d2]))))) → VR c M' H' v (.v .non) as → Q v H')
      | _, _ => False) (fun x ρ2 => ∀ cls dd H' M', Post c false σ M T H M' T H' ρ2 → XRep c M' H' cls dd x → W cls dd σ H')) :
    L2.tyV c.g.K "list" (.ref b') HB ∧ L2.tCons (rdE c W p2 g) L2.tNil σ HB (fun xs H2 => L2.rAppend (.ref b') xs H2 Q) := by
  obtain ⟨v', aI, hv', rI, sr0⟩ := qB.sr.outs eB (fun z => by cases z)
  rw [hv] at hv'
  cases hv'
  obtain ⟨v1, as1, l, r, k1, k2, ⟨a0, kb, k0, k3, k4, k5⟩, _⟩ := rI.dtel ej
  cases k0
  rw [hb kb k3] at k4
  cases k4
  cases k1 with
  | @l _ vs _ hlst rs =>
  refine ⟨.inl ⟨rfl, vs, .inl (.inl hlst)⟩, ρB.set i .no, MB, aI ++ T, sr0, hg _ _ _ _ _ (fun x ρ2 k u H3 M3 as2 q2 r2 => ?_) (fun x ρ2 k cls dd H3 M3 q2 rx => ?_) k⟩
  · split at k
    · rename_i d2 s0 ed e3
      obtain ⟨M4, q4, rd2, _, _⟩ := VRg.evD q2 r2 ed
      have mv := q4.mv sr0
      have rI4 : RepO c.g c.Z M4 H3 (.ref a) (.dt ks ss) aI := rI.moved mv fun z hz y => y.2 (List.mem_append_left _ hz)
      have hi2 : i < ρ2.length := (List.getElem?_eq_some_iff.mp e3).1
      have q5 := Post.back (as := []) q4 rI4 hv hi2
      have q6 : Post c false σ M T H M4 ([] ++ T) H3 (ρ2.set i (.dt ks ss)) := qB.trans q5 fun _ z => z
      have e6 : (ρ2.set i (.dt ks ss))[i]? = some (.dt ks ss) := List.getElem?_set_self hi2
      have ha3 : H3 a = some (dX a kb) := q4.keep a _ k3 fun _ => List.mem_append_left _ (by rw [k2]; simp [k5])
      obtain ⟨w, w1, as3, h1, ⟨a', kb', rfl, h2, h3⟩, h4, nd1, in1, inA, ndA, ch⟩ := q6.lens (s1 := .l ds) (st := fun x => .dt ks (ss.set j x)) (P := fun v v1 => ∃ a kb, v = .ref a ∧ H3 a = some (dX a kb) ∧ (kb.map fun x => V.ref x.2.2)[j]? = some v1) e6 (fun z => by cases z) (fun {v aI} r0 => by
        obtain ⟨v1, as1, l, r, k1, k2, ⟨a, kb, k3, k4, k5, _⟩, k7⟩ := r0.dtel ej
        exact ⟨v1, as1, l, r, k1, k2, ⟨a, kb, k3, k4, k5⟩, k7⟩)
      rw [hv] at h1
      cases h1
      rw [ha3] at h2
      have eHB : HB a = some (dX a kb') := by rw [k3]; exact h2
      rw [hb kb' eHB] at h3
      cases h3
      cases h4 with
      | @l _ vs' _ hl' rs' =>
      have mv2 : Moved (fun z => z = b') M4 (fun z => (M4 z ∧ z ∉ ([] : List Addr) ∧ z ∉ [b']) ∨ z ∈ [] ++ [b']) H3 (upd H3 b' (.lst (vs' ++ [u]))) :=
        ⟨fun z o eb hz => by rw [L2.upd_ne hz]; exact eb, fun z hz => by rw [hz]; exact .inl ⟨_, hl'⟩, fun z hz => by rw [hz]; exact (in1 b' (by simp)).1, fun z hz => by
          rcases hz with hz | hz
          · exact .inl hz.1
          · have : z = b' := by simpa using hz
            exact .inl (this ▸ (in1 b' (by simp)).1)⟩
      have fin := ch (upd H3 b' (.lst (vs' ++ [u]))) [] [b'] (.l (ds ++ [d2])) (fun z o eb hz => by rw [L2.upd_ne fun w => hz (by simp [w])]; exact eb) (by simp) (fun z hz => .inl (by simpa using hz)) (fun z hz => by
        have : z = b' := by simpa using hz
        rw [this]; exact .inl ⟨_, L2.upd_same⟩) (.l L2.upd_same ((rs'.moved mv2).append (.cons (rd2.moved mv2) .nil)))
      rw [List.set_set] at fin
      exact ⟨b', vs', u, rfl, rfl, hl', by rw [rs'.length]; exact lt_line k.1, k.2 _ _ _ [] fin (.v .non)⟩
    · exact k.elim
  · exact k cls dd H3 M3 (qB.trans (show Post c false σ MB T HB M3 T H3 ρ2 from ⟨q2.sr.drop, fun b o eb hb => q2.keep b o eb fun z => List.mem_append_right _ (hb z), q2.new, fun e => nomatch e⟩) (fun x hx => hx)).weak rx
/-- x.setdefault(k, []).append(v) -/
theorem ej_setd {o e v : Expr} {h g : ES} {lp a1 c1 a2 c2 : Pos} (hK : X.K = c.g.K) (hu : X.A.units + 128 < cLine) (ho : PE X o (L2.tVar i)) (he : EJ X c W p1 e h) (hv : EJ X c W p2 v g) (m : L2.M2 X o "setdefault" a1 e (.List [] lp) c1)
    (hbase : attributeBase (.Call (.Attribute o "setdefault" a1) [e, .List [] lp] [] c1) "append" X.env (eval (.Call (.Attribute o "setdefault" a1) [e, .List [] lp] [] c1) X.env) = eval (.Call (.Attribute o "setdefault" a1) [e, .List [] lp] [] c1) X.env := by rfl)
    (hfew : ((backTo c2 (starEach [v] X.env)).all (fun x => !x.1) && (backToKw c2 (keywordEach [] X.env)).all (fun x => x.1.isSome) && decide ([v].length + ([] : List Keyword).length + (if ([] : List Keyword).isEmpty then 0 else 1) < 30)) = true := by rfl)
    (hline : (a2.endLine == c2.line) = true := by rfl) (hst : starEach [v] X.env = (false, eval v X.env) :: starEach [] X.env := by rfl) :
    EJ X c W false (.Call (.Attribute (.Call (.Attribute o "setdefault" a1) [e, .List [] lp] [] c1) "append" a2) [v] [] c2) (sdE i h g) := by
  refine ⟨sdE_mono he.mono hv.mono, PE.imp (L2.pe_bm PySem.F.plainAttrs_list PySem.F.slot_list_append PySem.F.type_list_append L2.mt_append (pe_setX hu ho he.run (L2.pe_lst L2.pa_nil) m) (L2.pa_cons hv.run L2.pa_nil hst) hbase hfew hline hst rfl) ?_⟩
  rintro σ H Q ⟨ρ, M, T, s, ⟨ks0, ss0, e0⟩, k⟩
  obtain ⟨v0, as0, hv0, r0, _⟩ := s.read e0 (fun z => by cases z)
  cases r0 with
  | @dt a kb0 _ _ _ hd0 _ _ _ =>
  refine ⟨.ref a, hv0, a, kb0, rfl, hd0, ρ, M, T, s, he.mono _ _ _ _ _ (fun y ρ1 k u H1 M1 asy q r => ?_) (fun _ _ h => h) k⟩
  split at k
  · rename_i d ks ss e1
    split at k
    · rename_i kk ek
      obtain ⟨hlen, k⟩ := k
      cases r with
      | v rd =>
      refine ⟨Nat.zero_le _, fun pa hp => ?_⟩
      have x : Ext H1 (upd H1 pa (.lst [])) := Ext.new hp
      obtain ⟨w, w1, as1, h1, hw1, rI, nd1, in1, inA, ndA, ch⟩ := Post.lens (as := []) (s1 := .dt ks ss) (st := fun x => x) (P := fun v v1 => v = v1) q e1 (fun z => by cases z) (fun {v aI} r0 => ⟨v, aI, [], [], r0, by simp, rfl, fun _ _ _ _ _ _ _ rx => by simpa using rx⟩)
      subst hw1
      rw [hv0] at h1
      cases h1
      cases rI with
      | @dt _ kb _ _ as' hd hn hw hr =>
      have nap : a ≠ pa := fun z => by rw [z, hp] at hd; cases hd
      have hd1 : upd H1 pa (.lst []) a = some (dX a kb) := by rw [L2.upd_ne nap]; exact hd
      have rd1 := rd.ext x
      rw [keyT_is ek] at rd1
      obtain ⟨b, rfl, hb⟩ := rep_key rd1
      have hl : kb.length = ks.length := by rw [← hn, List.length_map]
      refine ⟨kb, kk, b, pa, hd1, rfl, rfl, fun y hy => hK ▸ keys_sq (Reps.ext x hw) y hy, hK ▸ hb, by rw [hl]; exact le1000 (Nat.le_of_lt hlen), fun v hv2 hh => ?_, fun hn2 hh => ?_⟩
      · cases ep : posK ks kk with
        | none => rw [← hn] at ep; rw [posK_none ep] at hv2; cases hv2
        | some j =>
          have ep' := ep
          rw [← hn] at ep'
          obtain ⟨y, hy, hy2⟩ := posK_some ep'
          rw [hv2] at hy2
          cases hy2
          rw [putD, ep] at k
          dsimp only at k
          split at k
          · rename_i ds ej
            have := setd_fin (p2 := p2) (Q := Q) (b' := y.2.2) hv.mono hv0 (Post.ext (q.weak) x) e1 ej (fun kb' e' => by
              rw [hd1] at e'
              rw [← dX_inj hh (Option.some.inj e'), List.getElem?_map, hy] <;> rfl) k
            rw [hK]
            exact this
          · exact k.elim
      · cases ep : posK ks kk with
        | some j =>
          rw [← hn] at ep
          obtain ⟨y, hy, hy2⟩ := posK_some ep
          rw [hn2] at hy2
          cases hy2
        | none =>
          rw [putD, ep] at k
          dsimp only at k
          have hlr : kb.length = ss.length := by have := hr.length; rwa [List.length_map] at this
          have npa : pa ∉ a :: as' := fun z => by
            have := (RepO.dt hd hn hw hr).typed pa z
            exact this.ne hp
          have mv : Moved (fun z => z = a) M1 (fun z => (M1 z ∧ z ∉ ([] : List Addr) ∧ z ∉ a :: as') ∨ z ∈ [] ++ (a :: (as' ++ [pa]))) H1 (upd (upd H1 pa (.lst [])) a (dX a (kb ++ [(kk, b, pa)]))) :=
            ⟨fun z o eb hz => by rw [L2.upd_ne hz]; exact x z o eb, fun z hz => by rw [hz]; exact .inr (.inr ⟨_, hd⟩), fun z hz => by rw [hz]; exact (in1 a (by simp)).1, fun z hz => by
              rcases hz with hz | hz
              · exact .inl hz.1
              · have hz' : z = a ∨ z ∈ as' ∨ z = pa := by simpa using hz
                rcases hz' with w | w | w
                · exact .inl (w ▸ (in1 a (by simp)).1)
                · exact .inl (in1 z (by simp [w])).1
                · exact .inr (w ▸ hp)⟩
          have nd1' := List.nodup_cons.mp nd1
          have rdk := rd.moved mv
          rw [keyT_is ek] at rdk
          have ro : RepO c.g c.Z (fun z => (M1 z ∧ z ∉ ([] : List Addr) ∧ z ∉ a :: as') ∨ z ∈ [] ++ (a :: (as' ++ [pa]))) (upd (upd H1 pa (.lst [])) a (dX a (kb ++ [(kk, b, pa)]))) (.ref a) (.dt (ks ++ [kk]) (ss ++ [.l []])) (a :: (as' ++ [pa])) := by
            refine .dt L2.upd_same (by rw [List.map_append, hn] <;> rfl) ?_ ?_
            · rw [List.map_append, List.map_append]
              exact (hw.moved mv).append (.cons rdk .nil)
            · rw [List.map_append]
              exact (hr.moved mv fun z hz w => nd1'.1 (w ▸ hz)).snocK (.l (by rw [L2.upd_ne (Ne.symm nap)]; exact L2.upd_same) .nil)
          have fin := ch _ [] (a :: (as' ++ [pa])) (.dt (ks ++ [kk]) (ss ++ [.l []])) (fun z o eb hz => by
            rw [L2.upd_ne fun w => hz (by simp [w])]; exact x z o eb) (by
            rw [List.nil_append, List.nodup_cons]
            refine ⟨fun z => ?_, List.nodup_append.mpr ⟨nd1'.2, by simp, fun y hy w hw2 e => ?_⟩⟩
            · rcases List.mem_append.mp z with z | z
              · exact nd1'.1 z
              · exact nap (by simpa using z)
            · have : w = pa := by simpa using hw2
              exact npa (by rw [← this, ← e]; exact List.mem_cons_of_mem _ hy)) (fun z hz => by
            have hz' : z = a ∨ z ∈ as' ∨ z = pa := by simpa using hz
            rcases hz' with w | w | w
            · exact .inl (by simp [w])
            · exact .inl (by simp [w])
            · exact .inr (.inr (w ▸ hp))) (fun z hz => ro.typed z (by simpa using hz)) ro
          rw [List.getElem?_append_right (Nat.le_refl _), Nat.sub_self] at k
          have hi1 : i < ρ1.length := (List.getElem?_eq_some_iff.mp e1).1
          have := setd_fin (p2 := p2) (Q := Q) (b' := pa) (j := ss.length) (ds := []) hv.mono hv0 fin (List.getElem?_set_self hi1) (by rw [List.getElem?_append_right (Nat.le_refl _), Nat.sub_self] <;> rfl) (fun kb' e' => by
            rw [L2.upd_same] at e'
            rw [← dX_inj hh (Option.some.inj e'), List.map_append, List.getElem?_append_right (by rw [List.length_map, hlr]; exact Nat.le_refl _), List.length_map, hlr, Nat.sub_self] <;> rfl) (by rw [List.set_set]; exact k)
          rw [hK]
          exact this
    · exact k.elim
  · exact k.elim
theorem IT.itemsX {d : Addr} {o : Obj} {kb : KB} {ds : List D} (s : SR c M T σ H ρ) (hd : H d = some (.frz o (dX d kb))) (nd : ¬ M d) (hw : Reps c.g c.Z M H (kb.map fun x => .ref x.2.1) (kb.map fun x => keyD x.1)) (hr : Reps c.g c.Z M H (kb.map fun x => .ref x.2.2) ds) :
    IT c M T H (ItX d o kb) (zipd (kb.map fun x => keyD x.1) ds) := by
  intro σ' M' H' ρ' q i
  have hd' : H' d = some (.frz o (dX d kb)) := q.keep d _ hd fun z => absurd z nd
  have hw' := hw.moved (q.mv s)
  have hr' := hr.moved (q.mv s)
  have hg := zipd_get (kb.map fun x => keyD x.1) ds i
  have hl : kb.length = ds.length := by have := hr.length; rwa [List.length_map] at this
  refine ⟨fun dd e => ?_, fun e => ⟨hd', ?_⟩⟩
  · cases e1 : kb[i]? with
    | none => rw [hg, List.getElem?_map, e1] at e; cases e
    | some y =>
      cases e2 : ds[i]? with
      | none => rw [hg, List.getElem?_map, e1, e2] at e; cases e
      | some d2 =>
        rw [hg, List.getElem?_map, e1, e2] at e
        simp only [Option.map_some, Option.bind_some, Option.some.injEq] at e
        refine ⟨⟨hd', (List.getElem?_eq_some_iff.mp e1).1⟩, fun x H'' y' => ?_⟩
        obtain ⟨T', k, q', b, g1, rfl, hT, rfl⟩ := y'
        rw [e1] at g1
        cases g1
        refine ⟨Ext.new hT, ?_⟩
        obtain ⟨v1, h1, h2⟩ := hw'.get (i := i) (d := keyD k) (by rw [List.getElem?_map, e1] <;> rfl)
        rw [List.getElem?_map, e1] at h1
        cases h1
        obtain ⟨v2, h3, h4⟩ := hr'.get e2
        rw [List.getElem?_map, e1] at h3
        cases h3
        rw [← e]
        exact .tup (.inl (.inl L2.upd_same)) (.cons (h2.ext (Ext.new hT)) (.cons (h4.ext (Ext.new hT)) .nil))
  · have : kb[i]? = none := by
      cases e1 : kb[i]? with
      | none => rfl
      | some y =>
        have hi := (List.getElem?_eq_some_iff.mp e1).1
        rw [hl] at hi
        rw [hg, List.getElem?_map, e1, List.getElem?_eq_getElem hi] at e
        cases e
    exact List.getElem?_eq_none_iff.mp this
/-- for k, v in e.items() -/
theorem ij_itemsX {e : Expr} {f : ES} {apos cpos tpos : Pos} {elts : List Expr} {kk : Nat} (h : EJ X c W p e f) (hbase : attributeBase e "items" X.env (eval e X.env) = eval e X.env := by rfl) (hline : (apos.endLine == cpos.line) = true := by rfl) :
    IJ X c W false (.Tuple elts kk tpos) (.Call (.Attribute e "items" apos) [] [] cpos) (itDt f) := by
  refine ⟨fun ρ K K' E E' hk he q => h.mono _ _ _ _ _ (fun x ρ' q => by
    split at q
    · split at q
      · exact hk _ _ q
      · exact q
    · exact q) he q, PI.imp (pi_itemsX h.run hbase hline) ?_⟩
  rintro σ H R ⟨ρ, M, T, s, k⟩
  refine ⟨ρ, M, T, s, h.mono _ _ _ _ _ (fun x ρ' k v H' M' as q r => ?_) (fun _ _ h => h) k⟩
  split at k
  · rename_i ks ss
    split at k
    · rename_i ds ed
      cases r with
      | m r =>
      cases r with
      | @dt d kb _ _ as' hd hn hw hr =>
      refine ⟨d, kb, rfl, hd, fun o => ?_⟩
      have q2 := q.weak.callT (ras := []) (H2 := upd H' d (.frz o (dX d kb))) (fun b u eb hb => by rw [L2.upd_ne fun z => hb (by simp [z])]; exact eb) (by simp) (fun z hz => absurd hz (by simp)) (fun z hz => absurd hz (by simp))
      obtain ⟨Ms, _, ndM, al⟩ := q.sr.slots
      obtain ⟨_, n2, _⟩ := List.nodup_append.mp ndM
      obtain ⟨n3, _, _⟩ := List.nodup_append.mp n2
      have hM : ∀ z ∈ d :: as', M' z := fun z hz => al z (List.mem_append_right _ (List.mem_append_left _ hz))
      have mv : Moved (fun z => z = d) M' (fun a => (M' a ∧ a ∉ d :: as') ∨ a ∈ ([] : List Addr)) H' (upd H' d (.frz o (dX d kb))) :=
        ⟨fun z o eb hz => by rw [L2.upd_ne hz]; exact eb, fun z hz => by rw [hz]; exact .inr (.inr ⟨_, hd⟩), fun z hz => by rw [hz]; exact hM d (by simp), fun z hz => by
          rcases hz with hz | hz
          · exact .inl hz.1
          · exact absurd hz (by simp)⟩
      have hr2 := (hr.moved mv fun z hz w => (List.nodup_cons.mp n3).1 (w ▸ hz)).freeze ed fun z hz => ⟨fun w => by
        rcases w with w | w
        · exact w.2 (List.mem_cons_of_mem _ hz)
        · exact absurd w (by simp), q.sr.noZ (hM z (List.mem_cons_of_mem _ hz))⟩
      have := k (ItX d o kb) _ _ q2 (by
        have e : ks.map keyD = kb.map fun x => keyD x.1 := by rw [← hn, List.map_map] <;> rfl
        rw [e]
        exact IT.itemsX q2.sr L2.upd_same (fun w => by
          rcases w with w | w
          · exact w.2 (by simp)
          · exact absurd w (by simp)) (hw.moved mv) hr2)
      exact this
    · exact k.elim
  · exact k.elim
end
end VS
set_option Elab.async false
set_option linter.all false
set_option maxRecDepth 100000
set_option maxHeartbeats 4000000
/-! VM1: fractions as Rat, sizes of ints. Plain mathematics. Own work. -/
namespace VS
/-- the size of an int -/
def Si (n : Nat) (a : Int) : Prop := a.natAbs < 2 ^ n
theorem Si.mono {n m : Nat} {a : Int} (h : Si n a) (l : n ≤ m) : Si m a := Nat.lt_of_lt_of_le h (Nat.pow_le_pow_right (by decide) l)
theorem Si.add {n m : Nat} {a b : Int} (h : Si n a) (h2 : Si m b) : Si (max n m + 1) (a + b) := by
  have h := h.mono (Nat.le_max_left n m)
  have h2 := h2.mono (Nat.le_max_right n m)
  unfold Si at *
  rw [Nat.pow_succ]
  omega
theorem Si.neg {n : Nat} {a : Int} (h : Si n a) : Si n (-a) := by unfold Si at *; omega
theorem Si.sub {n m : Nat} {a b : Int} (h : Si n a) (h2 : Si m b) : Si (max n m + 1) (a - b) := by
  rw [Int.sub_eq_add_neg]; exact h.add h2.neg
theorem Si.mul {n m : Nat} {a b : Int} (h : Si n a) (h2 : Si m b) : Si (n + m) (a * b) := by
  unfold Si at *
  rw [Int.natAbs_mul, Nat.pow_add]
  exact Nat.mul_lt_mul'' h h2
theorem Si.log {n m : Nat} {a : Int} (h : Si n a) (h1 : n ≤ m) (h0 : 0 < m) : a.natAbs.log2 < m := by
  by_cases e : a.natAbs = 0
  · rw [e]; simpa using h0
  · exact (Nat.log2_lt e).mpr (h.mono h1)
theorem Si.of_le {n : Nat} {a b : Int} (h : Si n b) (l : a.natAbs ≤ b.natAbs) : Si n a := Nat.lt_of_le_of_lt l h
theorem MulOk.of {n m : Nat} {a b : Int} (h : Si n a) (h2 : Si m b) (l : n + m < 129999999) : MulOk a b := by
  have e1 := h.log (m := n + 1) (by omega) (by omega)
  have e2 := h2.log (m := m + 1) (by omega) (by omega)
  unfold MulOk; omega
/-- the size of a fraction -/
structure Sm (n : Nat) (q : Rat) : Prop where
  num : Si n q.num
  den : Si n (q.den : Int)
theorem Sm.mono {n m : Nat} {q : Rat} (h : Sm n q) (l : n ≤ m) : Sm m q := ⟨h.1.mono l, h.2.mono l⟩
theorem den_pos (q : Rat) : 0 < (q.den : Int) := by have := q.den_pos; omega
theorem den_ne (q : Rat) : (q.den : Int) ≠ 0 := by have := q.den_pos; omega
theorem num_eq (q : Rat) : (q.num : Rat) = q * ((q.den : Int) : Rat) := by
  have h : ((q.den : Int) : Rat) ≠ 0 := by simpa using q.den_nz
  have := Rat.num_divInt_den q
  rw [Rat.divInt_eq_div] at this
  grind
theorem nd (q : Rat) : (q.num : Rat) / ((q.den : Int) : Rat) = q := by
  rw [← Rat.divInt_eq_div]; exact Rat.num_divInt_den q
theorem frac_num {a b : Int} (hb : b ≠ 0) : ((a : Rat) / b).num = a.fdiv (if b < 0 then 0 - (Int.gcd a b : Int) else Int.gcd a b) := by
  rw [← Rat.divInt_eq_div, Rat.num_divInt, Int.gcd_comm b a]
  have g0 : (0 : Int) < (Int.gcd a b : Int) := by
    have := Int.gcd_pos_iff (a := a) (b := b); omega
  have hd : ((Int.gcd a b : Nat) : Int) ∣ a := Int.gcd_dvd_left ..
  obtain ⟨c, hc⟩ := hd
  generalize hg : ((Int.gcd a b : Nat) : Int) = g at *
  subst hc
  split
  · rename_i h
    rw [Int.sign_eq_neg_one_of_neg h]
    rw [show -1 * (g * c) = g * (-c) by grind, Int.mul_ediv_cancel_left _ (by omega)]
    rw [Int.fdiv_eq_ediv_of_dvd ⟨-c, by grind⟩, show g * c = (0 - g) * (-c) by grind, Int.mul_ediv_cancel_left _ (by omega)]
  · rename_i h
    rw [Int.sign_eq_one_of_pos (by omega), Int.one_mul, Int.mul_ediv_cancel_left _ (by omega), Int.fdiv_eq_ediv_of_dvd ⟨c, rfl⟩, Int.mul_ediv_cancel_left _ (by omega)]
theorem frac_den {a b : Int} (hb : b ≠ 0) : ((((a : Rat) / b).den : Nat) : Int) = b.fdiv (if b < 0 then 0 - (Int.gcd a b : Int) else Int.gcd a b) := by
  rw [← Rat.divInt_eq_div, Rat.den_divInt, if_neg hb, Int.gcd_comm b a]
  have g0 : (0 : Int) < (Int.gcd a b : Int) := by
    have := Int.gcd_pos_iff (a := a) (b := b); omega
  have hd : ((Int.gcd a b : Nat) : Int) ∣ b := Int.gcd_dvd_right ..
  obtain ⟨c, hc⟩ := hd
  have e : ((b.natAbs / Int.gcd a b : Nat) : Int) = (b.natAbs : Int) / (Int.gcd a b : Int) := rfl
  rw [e]
  generalize hg : ((Int.gcd a b : Nat) : Int) = g at *
  subst hc
  split
  · rename_i h
    have : ((g * c).natAbs : Int) = g * (-c) := by rw [Int.ofNat_natAbs_of_nonpos (by omega)]; grind
    rw [this, Int.mul_ediv_cancel_left _ (by omega)]
    rw [Int.fdiv_eq_ediv_of_dvd ⟨-c, by grind⟩, show g * c = (0 - g) * (-c) by grind, Int.mul_ediv_cancel_left _ (by omega)]
  · rename_i h
    have : ((g * c).natAbs : Int) = g * c := Int.natAbs_of_nonneg (by omega)
    rw [this, Int.mul_ediv_cancel_left _ (by omega), Int.fdiv_eq_ediv_of_dvd ⟨c, rfl⟩, Int.mul_ediv_cancel_left _ (by omega)]
theorem fdiv_le {a g : Int} (hg : g ≠ 0) (hd : g ∣ a) : (a.fdiv g).natAbs ≤ a.natAbs := by
  obtain ⟨c, rfl⟩ := hd
  rw [Int.fdiv_eq_ediv_of_dvd ⟨c, rfl⟩, Int.mul_ediv_cancel_left _ hg, Int.natAbs_mul]
  exact Nat.le_mul_of_pos_left _ (by omega)
theorem Sm.div {n m : Nat} {a b : Int} (ha : Si n a) (hb : Si m b) (h0 : b ≠ 0) : Sm (max n m) ((a : Rat) / b) := by
  have g0 : (0 : Int) < (Int.gcd a b : Int) := by
    have := Int.gcd_pos_iff (a := a) (b := b); omega
  have h1 : ((Int.gcd a b : Nat) : Int) ∣ a := Int.gcd_dvd_left ..
  have h2 : ((Int.gcd a b : Nat) : Int) ∣ b := Int.gcd_dvd_right ..
  refine ⟨?_, ?_⟩
  · rw [frac_num h0]
    refine (ha.mono (Nat.le_max_left n m)).of_le (fdiv_le (by split <;> omega) ?_)
    split
    · rw [Int.zero_sub]; exact Int.neg_dvd.mpr h1
    · exact h1
  · rw [frac_den h0]
    refine (hb.mono (Nat.le_max_right n m)).of_le (fdiv_le (by split <;> omega) ?_)
    split
    · rw [Int.zero_sub]; exact Int.neg_dvd.mpr h2
    · exact h2
theorem add_eq (p q : Rat) : p + q = ((p.num * q.den + q.num * p.den : Int) : Rat) / ((p.den * q.den : Int) : Rat) := by
  have h1 : ((p.den : Int) : Rat) ≠ 0 := by simpa using p.den_nz
  have h2 : ((q.den : Int) : Rat) ≠ 0 := by simpa using q.den_nz
  have e1 := num_eq p
  have e2 := num_eq q
  rw [Rat.intCast_add, Rat.intCast_mul, Rat.intCast_mul, Rat.intCast_mul]
  grind
theorem sub_eq (p q : Rat) : p - q = ((p.num * q.den - q.num * p.den : Int) : Rat) / ((p.den * q.den : Int) : Rat) := by
  have h1 : ((p.den : Int) : Rat) ≠ 0 := by simpa using p.den_nz
  have h2 : ((q.den : Int) : Rat) ≠ 0 := by simpa using q.den_nz
  have e1 := num_eq p
  have e2 := num_eq q
  rw [Rat.intCast_sub, Rat.intCast_mul, Rat.intCast_mul, Rat.intCast_mul]
  grind
theorem mul_eq (p q : Rat) : p * q = ((p.num * q.num : Int) : Rat) / ((p.den * q.den : Int) : Rat) := by
  have h1 : ((p.den : Int) : Rat) ≠ 0 := by simpa using p.den_nz
  have h2 : ((q.den : Int) : Rat) ≠ 0 := by simpa using q.den_nz
  have e1 := num_eq p
  have e2 := num_eq q
  rw [Rat.intCast_mul, Rat.intCast_mul]
  grind
theorem div_eq (p q : Rat) (hq : q ≠ 0) : p / q = ((p.num * q.den : Int) : Rat) / ((p.den * q.num : Int) : Rat) := by
  have h1 : ((p.den : Int) : Rat) ≠ 0 := by simpa using p.den_nz
  have h2 : ((q.den : Int) : Rat) ≠ 0 := by simpa using q.den_nz
  have e1 := num_eq p
  have e2 := num_eq q
  rw [Rat.intCast_mul, Rat.intCast_mul]
  grind
theorem Sm.add {n m : Nat} {p q : Rat} (h : Sm n p) (h2 : Sm m q) : Sm (n + m + 1) (p + q) := by
  rw [add_eq]
  exact (Sm.div (((h.1.mul h2.2).add (h2.1.mul h.2))) (h.2.mul h2.2) (Int.mul_ne_zero (den_ne p) (den_ne q))).mono (by omega)
theorem Sm.sub {n m : Nat} {p q : Rat} (h : Sm n p) (h2 : Sm m q) : Sm (n + m + 1) (p - q) := by
  rw [sub_eq]
  exact (Sm.div (((h.1.mul h2.2).sub (h2.1.mul h.2))) (h.2.mul h2.2) (Int.mul_ne_zero (den_ne p) (den_ne q))).mono (by omega)
theorem Sm.mul {n m : Nat} {p q : Rat} (h : Sm n p) (h2 : Sm m q) : Sm (n + m) (p * q) := by
  rw [mul_eq]
  exact (Sm.div (h.1.mul h2.1) (h.2.mul h2.2) (Int.mul_ne_zero (den_ne p) (den_ne q))).mono (by omega)
theorem num_ne {q : Rat} (h : q ≠ 0) : q.num ≠ 0 := fun e => h (Rat.num_eq_zero.mp e)
theorem Sm.quo {n m : Nat} {p q : Rat} (h : Sm n p) (h2 : Sm m q) (h0 : q ≠ 0) : Sm (n + m) (p / q) := by
  rw [div_eq p q h0]
  exact (Sm.div (h.1.mul h2.2) (h.2.mul h2.1) (Int.mul_ne_zero (den_ne p) (num_ne h0))).mono (by omega)
theorem Sm.int {n : Nat} {a : Int} (h : Si n a) : Sm (n + 1) (a : Rat) := ⟨by simpa using h.mono (by omega), by
  have := Nat.two_pow_pos n
  show ((((a : Rat).den : Nat) : Int)).natAbs < 2 ^ (n + 1)
  rw [Rat.den_intCast, Nat.pow_succ]; simp; omega⟩
/-! ### the loop of Euclid -/
def gcdT (i j : Nat) : BS := bT (bin true (vE j) (cE (.int 0)) gtR)
def gcdB (i j : Nat) : SS := parS i j (consA true (vE j) (consA true (bin true (vE i) (vE j) (intR (fun _ j => j ≠ 0) fun i j => .int (i.fmod j))) nilA))
theorem gcd_loop {i j : Nat} (hij : i ≠ j) (k : SK) : ∀ (n : Nat) (a b : Int) (ρ : Rho), ρ[i]? = some (.v (.int a)) → ρ[j]? = some (.v (.int b)) → 0 ≤ a → 0 ≤ b → b.toNat < n →
    k.nx ((ρ.set i (.v (.int (Int.gcd a b)))).set j (.v (.int 0))) → whileN (gcdT i j) (gcdB i j) n ρ k
  | 0, _, _, _, _, _, _, _, h, _ => by omega
  | n + 1, a, b, ρ, h1, h2, ha, hb, hn, h => by
    have hi : i < ρ.length := (List.getElem?_eq_some_iff.mp h1).1
    have hj : j < ρ.length := (List.getElem?_eq_some_iff.mp h2).1
    unfold whileN gcdT gcdB
    by_cases e : 0 < b
    · simp only [cE, vE, bE, rE, fE, mE, bin, nilA, consA, bT, andT, orT, notT, tupE, lstE, allV, allM, okB, intR, addR, asL, asT, asD, eqR, eqD_nn, eqD_bb, eqD_ii, eqD_ss, eqD_tt, eqD_ll, eqD_bi, eqD_ib, eqD_nt, eqD_tn, eqD_it, eqD_ti, eqD_ni, eqD_in, eqDs_nn, eqDs_cc, eqDs_nc, eqDs_cn, cmpD, cmpDs, depD, depDs, isNon, isNR, chainE, tvE, andV, orV, notV, ifE, slEV, ixR, callV, lenC, isiC, tyN, pick, retEV, callP, argD, argDs, seqS, bkS, ctS, exprS, retS, retNS, ifS, evSl, setS, SK.loop, gN, gNil, gCons, gT, asgS, parS, defF, defK, raiseS, absC, divmodC, mmC, stL, itL, itT, itR1, itR2, itE, shL, itZ, itV, forS, evD, methL, appL, clrL, popL, insL, trL, extL, setixS, argS, argSs, callI, callN, hereA, nextA, negE, itS, wipeR, compE, compD, yesT, seqD, listC, tupC, numd, zipd, nxS, frSl, retSl, retSls, retOk, retOks, tryAsS, tryOnlyS, lookB, kinE, xfE, lookF, frzE, isTR, isTB, allC, blsD, gU, raiseIS, at0, at1, at2, at3, h1, h2, e, decide_true, if_true, hi, hj, List.length_set, true_and]
      refine ⟨by omega, ?_⟩
      have e1 : ((ρ.set i (.v (.int b))).set j (.v (.int (a.fmod b))))[i]? = some (.v (.int b)) := by
        rw [List.getElem?_set_ne (Ne.symm hij), List.getElem?_set_self hi]
      have e2 : ((ρ.set i (.v (.int b))).set j (.v (.int (a.fmod b))))[j]? = some (.v (.int (a.fmod b))) := by
        rw [List.getElem?_set_self (by simpa using hj)]
      have m0 := Int.fmod_nonneg_of_pos a e
      have m1 := Int.fmod_lt_of_pos a e
      refine gcd_loop hij k n b (a.fmod b) _ e1 e2 (by omega) m0 (by omega) ?_
      rw [List.set_comm _ _ hij, List.set_set, List.set_comm _ _ (Ne.symm hij), List.set_set]
      have eg : Int.gcd b (a.fmod b) = Int.gcd a b := by
        rw [Int.fmod_eq_emod_of_nonneg _ hb, Int.emod_def, show a - b * (a / b) = a + b * -(a / b) by grind, Int.gcd_add_mul_left_right, Int.gcd_comm]
      rw [eg]
      exact h
    · have : b = 0 := by omega
      subst this
      simp only [cE, vE, bE, rE, fE, mE, bin, nilA, consA, bT, andT, orT, notT, tupE, lstE, allV, allM, okB, intR, addR, asL, asT, asD, eqR, eqD_nn, eqD_bb, eqD_ii, eqD_ss, eqD_tt, eqD_ll, eqD_bi, eqD_ib, eqD_nt, eqD_tn, eqD_it, eqD_ti, eqD_ni, eqD_in, eqDs_nn, eqDs_cc, eqDs_nc, eqDs_cn, cmpD, cmpDs, depD, depDs, isNon, isNR, chainE, tvE, andV, orV, notV, ifE, slEV, ixR, callV, lenC, isiC, tyN, pick, retEV, callP, argD, argDs, seqS, bkS, ctS, exprS, retS, retNS, ifS, evSl, setS, SK.loop, gN, gNil, gCons, gT, asgS, parS, defF, defK, raiseS, absC, divmodC, mmC, stL, itL, itT, itR1, itR2, itE, shL, itZ, itV, forS, evD, methL, appL, clrL, popL, insL, trL, extL, setixS, argS, argSs, callI, callN, hereA, nextA, negE, itS, wipeR, compE, compD, yesT, seqD, listC, tupC, numd, zipd, nxS, frSl, retSl, retSls, retOk, retOks, tryAsS, tryOnlyS, lookB, kinE, xfE, lookF, frzE, isTR, isTB, allC, blsD, gU, raiseIS, at0, at1, at2, at3, h1, h2, Int.lt_irrefl, decide_false]
      simp only [Bool.false_eq_true, if_false]
      have eg : (Int.gcd a 0 : Int) = a := by rw [Int.gcd_zero_right]; exact Int.natAbs_of_nonneg ha
      rw [eg] at h
      have : (ρ.set i (.v (.int a))).set j (.v (.int 0)) = ρ := by
        have hs : ∀ (l : Rho) (n : Nat) (s : Sl), l[n]? = some s → l.set n s = l := fun l n s h => by
          obtain ⟨hn, e⟩ := List.getElem?_eq_some_iff.mp h
          rw [← e]; exact List.set_getElem_self hn
        rw [hs _ _ _ h1, hs _ _ _ h2]
      rw [this] at h
      exact ⟨trivial, trivial, h⟩
theorem gcd_while {i j : Nat} (hij : i ≠ j) (k : SK) (a b : Int) (ρ : Rho) (h1 : ρ[i]? = some (.v (.int a))) (h2 : ρ[j]? = some (.v (.int b))) (ha : 0 ≤ a) (hb : 0 ≤ b)
    (h : k.nx ((ρ.set i (.v (.int (Int.gcd a b)))).set j (.v (.int 0)))) : whileS (gcdT i j) (gcdB i j) ρ k := ⟨b.toNat + 1, gcd_loop hij k _ a b ρ h1 h2 ha hb (by omega) h⟩
end VS
set_option Elab.async false
set_option linter.all false
set_option maxRecDepth 100000
set_option maxHeartbeats 4000000
/-! VM2: what the defs of fractions promise, and that they do it. Own work. -/
namespace VS
open PySem PySem.Spec PyProof.Rows
/-- a fraction -/
abbrev frD (q : Rat) : D := .tup [.int q.num, .int (q.den : Int)]
def isI : D → Option Bool
  | .int _ => some true
  | .bl _ => some false
  | .str _ => some false
  | .non => some false
  | .tup _ => some false
  | .lst _ _ => some false
  | .dct _ _ => some false
  | _ => none
def F_is_whole : FS := fun ss K _ => match ss with
  | [.v d] => (match isI d with
    | some b => K (.v (.bl b)) []
    | none => False)
  | _ => False
def F_size_of : FS := fun ss K _ => match ss with
  | [.v (.int a)] => K (.v (.int a.natAbs)) []
  | _ => False
def F_divisor : FS := fun ss K _ => match ss with
  | [.v (.int a), .v (.int b)] => (0 ≤ a ∧ 0 ≤ b) ∧ K (.v (.int (Int.gcd a b))) []
  | _ => False
abbrev noNumber : Exc := ⟨"NoNumber", [], []⟩
def F_fraction : FS := fun ss K E => match ss with
  | [.v (.int a), .v (.int b)] => if b = 0 then E noNumber [] else Si 8100 b ∧ K (.v (frD ((a : Rat) / (b : Rat)))) []
  | [.v x, .v y] => (isI x ≠ none ∧ isI y ≠ none) ∧ E noNumber []
  | _ => False
/-- an operation on two fractions -/
def F_two (f : Rat → Rat → Rat) : FS := fun ss K _ => match ss with
  | [.v (.tup [.int a, .int b]), .v (.tup [.int c, .int d])] => (b ≠ 0 ∧ d ≠ 0 ∧ Si 4000 a ∧ Si 4000 b ∧ Si 4000 c ∧ Si 4000 d) ∧ K (.v (frD (f ((a : Rat) / (b : Rat)) ((c : Rat) / (d : Rat))))) []
  | _ => False
def F_plus : FS := F_two fun p q => p + q
def F_minus : FS := F_two fun p q => p - q
def F_times : FS := F_two fun p q => p * q
def F_over : FS := fun ss K E => match ss with
  | [.v (.tup [.int a, .int b]), .v (.tup [.int c, .int d])] => (b ≠ 0 ∧ d ≠ 0 ∧ Si 4000 a ∧ Si 4000 b ∧ Si 4000 c ∧ Si 4000 d) ∧ if c = 0 then E noNumber [] else K (.v (frD (((a : Rat) / (b : Rat)) / ((c : Rat) / (d : Rat))))) []
  | _ => False
/-- less; both bottoms above 0 -/
def F_under : FS := fun ss K _ => match ss with
  | [.v (.tup [.int a, .int b]), .v (.tup [.int c, .int d])] => (0 < b ∧ 0 < d ∧ Si 4000 a ∧ Si 4000 b ∧ Si 4000 c ∧ Si 4000 d) ∧ K (.v (.bl (decide ((a : Rat) / (b : Rat) < (c : Rat) / (d : Rat))))) []
  | _ => False
def sf_is_whole : SS := (retS (andV (callV (isiC kb) (consA true (vE 0) (consA true (cE (.ty "int")) nilA))) (notV (callV (isiC kb) (consA true (vE 0) (consA true (cE (.ty "bool")) nilA))))))
def sf_size_of : SS := (seqS (ifS (bT (bin true (vE 0) (cE (.int 0)) ltR)) (retS (bin true (cE (.int 0)) (vE 0) (intR (fun _ _ => True) fun i j => .int (i - j)))) nxS)
  (retS (vE 0)))
def sf_divisor : SS := (seqS (whileS (bT (bin true (vE 1) (cE (.int 0)) gtR)) (parS 0 1 (consA true (vE 1) (consA true (bin true (vE 0) (vE 1) (intR (fun _ j => j ≠ 0) fun i j => .int (i.fmod j))) nilA))))
  (retS (vE 0)))
def sf_fraction : SS := (seqS (ifS (orT (notT (bT (callP F_is_whole [] (consA true (vE 0) nilA)))) (orT (notT (bT (callP F_is_whole [] (consA true (vE 1) nilA)))) (bT (bin true (vE 1) (cE (.int 0)) (eqR false))))) (raiseS "NoNumber") nxS)
  (seqS (setS 2 true (callP F_divisor [] (consA true (callP F_size_of [] (consA true (vE 0) nilA)) (consA true (callP F_size_of [] (consA true (vE 1) nilA)) nilA))))
  (seqS (ifS (bT (bin true (vE 1) (cE (.int 0)) ltR)) (setS 2 true (bin true (cE (.int 0)) (vE 2) (intR (fun _ _ => True) fun i j => .int (i - j)))) nxS)
  (retS (tupE (consA true (bin true (vE 0) (vE 2) (intR DivOk fun i j => .int (i.fdiv j))) (consA true (bin true (vE 1) (vE 2) (intR DivOk fun i j => .int (i.fdiv j))) nilA)))))))
def sf_plus : SS := (retS (callP F_fraction [] (consA true (bin true (bin true (bin true (vE 0) (cE (.int 0)) ixR) (bin true (vE 1) (cE (.int 1)) ixR) (intR MulOk fun i j => .int (i * j))) (bin true (bin true (vE 1) (cE (.int 0)) ixR) (bin true (vE 0) (cE (.int 1)) ixR) (intR MulOk fun i j => .int (i * j))) addR) (consA true (bin true (bin true (vE 0) (cE (.int 1)) ixR) (bin true (vE 1) (cE (.int 1)) ixR) (intR MulOk fun i j => .int (i * j))) nilA))))
def sf_minus : SS := (retS (callP F_fraction [] (consA true (bin true (bin true (bin true (vE 0) (cE (.int 0)) ixR) (bin true (vE 1) (cE (.int 1)) ixR) (intR MulOk fun i j => .int (i * j))) (bin true (bin true (vE 1) (cE (.int 0)) ixR) (bin true (vE 0) (cE (.int 1)) ixR) (intR MulOk fun i j => .int (i * j))) (intR (fun _ _ => True) fun i j => .int (i - j))) (consA true (bin true (bin true (vE 0) (cE (.int 1)) ixR) (bin true (vE 1) (cE (.int 1)) ixR) (intR MulOk fun i j => .int (i * j))) nilA))))
def sf_times : SS := (retS (callP F_fraction [] (consA true (bin true (bin true (vE 0) (cE (.int 0)) ixR) (bin true (vE 1) (cE (.int 0)) ixR) (intR MulOk fun i j => .int (i * j))) (consA true (bin true (bin true (vE 0) (cE (.int 1)) ixR) (bin true (vE 1) (cE (.int 1)) ixR) (intR MulOk fun i j => .int (i * j))) nilA))))
def sf_over : SS := (retS (callP F_fraction [] (consA true (bin true (bin true (vE 0) (cE (.int 0)) ixR) (bin true (vE 1) (cE (.int 1)) ixR) (intR MulOk fun i j => .int (i * j))) (consA true (bin true (bin true (vE 0) (cE (.int 1)) ixR) (bin true (vE 1) (cE (.int 0)) ixR) (intR MulOk fun i j => .int (i * j))) nilA))))
def sf_under : SS := (retS (bin true (bin true (bin true (vE 0) (cE (.int 0)) ixR) (bin true (vE 1) (cE (.int 1)) ixR) (intR MulOk fun i j => .int (i * j))) (bin true (bin true (vE 1) (cE (.int 0)) ixR) (bin true (vE 0) (cE (.int 1)) ixR) (intR MulOk fun i j => .int (i * j))) ltR))
theorem m_is_whole : MonoF F_is_whole := fun ss K K' E E' hk he h => by
  unfold F_is_whole at h ⊢
  grind
theorem m_size_of : MonoF F_size_of := fun ss K K' E E' hk he h => by
  unfold F_size_of at h ⊢
  grind
theorem m_divisor : MonoF F_divisor := fun ss K K' E E' hk he h => by
  unfold F_divisor at h ⊢
  grind
theorem m_fraction : MonoF F_fraction := fun ss K K' E E' hk he h => by
  unfold F_fraction at h ⊢
  grind
theorem m_two {f} : MonoF (F_two f) := fun ss K K' E E' hk he h => by
  unfold F_two at h ⊢
  grind
theorem m_plus : MonoF F_plus := m_two
theorem m_minus : MonoF F_minus := m_two
theorem m_times : MonoF F_times := m_two
theorem m_over : MonoF F_over := fun ss K K' E E' hk he h => by
  unfold F_over at h ⊢
  grind
theorem m_under : MonoF F_under := fun ss K K' E E' hk he h => by
  unfold F_under at h ⊢
  grind
theorem to_is_whole : ∀ ss K E, F_is_whole ss K E → defF [false] 1 sf_is_whole ss K E := fun ss K E h => by
  unfold F_is_whole at h
  split at h
  · rename_i d
    cases d <;> simp only [isI] at h <;> first | exact h.elim | (simp [sf_is_whole, cE, vE, bE, rE, fE, mE, bin, nilA, consA, bT, andT, orT, notT, tupE, lstE, allV, allM, okB, intR, addR, asL, asT, asD, eqR, eqD_nn, eqD_bb, eqD_ii, eqD_ss, eqD_tt, eqD_ll, eqD_bi, eqD_ib, eqD_nt, eqD_tn, eqD_it, eqD_ti, eqD_ni, eqD_in, eqDs_nn, eqDs_cc, eqDs_nc, eqDs_cn, cmpD, cmpDs, depD, depDs, isNon, isNR, chainE, tvE, andV, orV, notV, ifE, slEV, ixR, callV, lenC, isiC, tyN, pick, retEV, callP, argD, argDs, seqS, bkS, ctS, exprS, retS, retNS, ifS, evSl, setS, SK.loop, gN, gNil, gCons, gT, asgS, parS, defF, defK, raiseS, absC, divmodC, mmC, stL, itL, itT, itR1, itR2, itE, shL, itZ, itV, forS, evD, methL, appL, clrL, popL, insL, trL, extL, setixS, argS, argSs, callI, callN, hereA, nextA, negE, itS, wipeR, compE, compD, yesT, seqD, listC, tupC, numd, zipd, nxS, frSl, retSl, retSls, retOk, retOks, tryAsS, tryOnlyS, lookB, kinE, xfE, lookF, frzE, isTR, isTB, allC, blsD, gU, raiseIS, at0, at1, at2, at3, kb]; first | exact h | done)
  · exact h.elim
theorem to_size_of : ∀ ss K E, F_size_of ss K E → defF [false] 1 sf_size_of ss K E := fun ss K E h => by
  unfold F_size_of at h
  split at h
  · rename_i a
    simp [sf_size_of, cE, vE, bE, rE, fE, mE, bin, nilA, consA, bT, andT, orT, notT, tupE, lstE, allV, allM, okB, intR, addR, asL, asT, asD, eqR, eqD_nn, eqD_bb, eqD_ii, eqD_ss, eqD_tt, eqD_ll, eqD_bi, eqD_ib, eqD_nt, eqD_tn, eqD_it, eqD_ti, eqD_ni, eqD_in, eqDs_nn, eqDs_cc, eqDs_nc, eqDs_cn, cmpD, cmpDs, depD, depDs, isNon, isNR, chainE, tvE, andV, orV, notV, ifE, slEV, ixR, callV, lenC, isiC, tyN, pick, retEV, callP, argD, argDs, seqS, bkS, ctS, exprS, retS, retNS, ifS, evSl, setS, SK.loop, gN, gNil, gCons, gT, asgS, parS, defF, defK, raiseS, absC, divmodC, mmC, stL, itL, itT, itR1, itR2, itE, shL, itZ, itV, forS, evD, methL, appL, clrL, popL, insL, trL, extL, setixS, argS, argSs, callI, callN, hereA, nextA, negE, itS, wipeR, compE, compD, yesT, seqD, listC, tupC, numd, zipd, nxS, frSl, retSl, retSls, retOk, retOks, tryAsS, tryOnlyS, lookB, kinE, xfE, lookF, frzE, isTR, isTB, allC, blsD, gU, raiseIS, at0, at1, at2, at3]
    split
    · rwa [Int.ofNat_natAbs_of_nonpos (by omega)] at h
    · rwa [Int.natAbs_of_nonneg (by omega)] at h
  · exact h.elim
theorem to_divisor : ∀ ss K E, F_divisor ss K E → defF [false, false] 2 sf_divisor ss K E := fun ss K E h => by
  unfold F_divisor at h
  split at h
  · rename_i a b
    refine ⟨rfl, ?_⟩
    unfold sf_divisor seqS
    refine gcd_while (i := 0) (j := 1) (by decide) _ a b _ rfl rfl h.1.1 h.1.2 ?_
    simp [cE, vE, bE, rE, fE, mE, bin, nilA, consA, bT, andT, orT, notT, tupE, lstE, allV, allM, okB, intR, addR, asL, asT, asD, eqR, eqD_nn, eqD_bb, eqD_ii, eqD_ss, eqD_tt, eqD_ll, eqD_bi, eqD_ib, eqD_nt, eqD_tn, eqD_it, eqD_ti, eqD_ni, eqD_in, eqDs_nn, eqDs_cc, eqDs_nc, eqDs_cn, cmpD, cmpDs, depD, depDs, isNon, isNR, chainE, tvE, andV, orV, notV, ifE, slEV, ixR, callV, lenC, isiC, tyN, pick, retEV, callP, argD, argDs, seqS, bkS, ctS, exprS, retS, retNS, ifS, evSl, setS, SK.loop, gN, gNil, gCons, gT, asgS, parS, defF, defK, raiseS, absC, divmodC, mmC, stL, itL, itT, itR1, itR2, itE, shL, itZ, itV, forS, evD, methL, appL, clrL, popL, insL, trL, extL, setixS, argS, argSs, callI, callN, hereA, nextA, negE, itS, wipeR, compE, compD, yesT, seqD, listC, tupC, numd, zipd, nxS, frSl, retSl, retSls, retOk, retOks, tryAsS, tryOnlyS, lookB, kinE, xfE, lookF, frzE, isTR, isTB, allC, blsD, gU, raiseIS, at0, at1, at2, at3]
    exact h.2
  · exact h.elim
theorem divOk_of {a g : Int} {n : Nat} (h : Si n g) (hn : n ≤ 8999) (h0 : g ≠ 0) : DivOk a g := h0
theorem gcd_si {a b : Int} {n : Nat} (h : Si n b) (hb : b ≠ 0) : Si n (Int.gcd a b : Int) := by
  refine h.of_le ?_
  have h1 : Int.gcd a b ∣ b.natAbs := Int.gcd_dvd_natAbs_right ..
  have := Nat.le_of_dvd (by omega) h1
  simpa using this
theorem gcd_pos {a b : Int} (hb : b ≠ 0) : (0 : Int) < (Int.gcd a b : Int) := by
  have := Int.gcd_pos_iff (a := a) (b := b); omega
theorem gcd_nat {a b : Int} : Nat.gcd a.natAbs b.natAbs = Int.gcd a b := rfl
theorem isI_true {x : D} (h : isI x = some true) : ∃ i, x = .int i := by cases x <;> simp [isI] at h; exact ⟨_, rfl⟩
theorem to_fraction : ∀ ss K E, F_fraction ss K E → defF [false, false] 3 sf_fraction ss K E := fun ss K E h => by
  unfold F_fraction at h
  split at h
  · rename_i a b
    simp [sf_fraction, F_is_whole, F_size_of, F_divisor, isI, gcd_nat, cE, vE, bE, rE, fE, mE, bin, nilA, consA, bT, andT, orT, notT, tupE, lstE, allV, allM, okB, intR, addR, asL, asT, asD, eqR, eqD_nn, eqD_bb, eqD_ii, eqD_ss, eqD_tt, eqD_ll, eqD_bi, eqD_ib, eqD_nt, eqD_tn, eqD_it, eqD_ti, eqD_ni, eqD_in, eqDs_nn, eqDs_cc, eqDs_nc, eqDs_cn, cmpD, cmpDs, depD, depDs, isNon, isNR, chainE, tvE, andV, orV, notV, ifE, slEV, ixR, callV, lenC, isiC, tyN, pick, retEV, callP, argD, argDs, seqS, bkS, ctS, exprS, retS, retNS, ifS, evSl, setS, SK.loop, gN, gNil, gCons, gT, asgS, parS, defF, defK, raiseS, absC, divmodC, mmC, stL, itL, itT, itR1, itR2, itE, shL, itZ, itV, forS, evD, methL, appL, clrL, popL, insL, trL, extL, setixS, argS, argSs, callI, callN, hereA, nextA, negE, itS, wipeR, compE, compD, yesT, seqD, listC, tupC, numd, zipd, nxS, frSl, retSl, retSls, retOk, retOks, tryAsS, tryOnlyS, lookB, kinE, xfE, lookF, frzE, isTR, isTB, allC, blsD, gU, raiseIS, at0, at1, at2, at3]
    by_cases hb : b = 0
    · rw [if_pos hb] at h ⊢; exact h
    · rw [if_neg hb] at h ⊢
      obtain ⟨h1, h2⟩ := h
      unfold frD at h2
      rw [frac_num hb, frac_den hb] at h2
      have g0 := gcd_pos (a := a) hb
      have gs := gcd_si (a := a) h1 hb
      split
      · rename_i hn
        rw [if_pos hn, Int.zero_sub] at h2
        exact ⟨divOk_of gs.neg (by decide) (by omega), divOk_of gs.neg (by decide) (by omega), h2⟩
      · rename_i hn
        rw [if_neg hn] at h2
        exact ⟨divOk_of gs (by decide) (by omega), divOk_of gs (by decide) (by omega), h2⟩
  · rename_i x y hxy
    obtain ⟨⟨h1, h2⟩, h⟩ := h
    cases ex : isI x with
    | none => exact absurd ex h1
    | some bx =>
      cases ey : isI y with
      | none => exact absurd ey h2
      | some by' =>
        cases bx
        · simp [sf_fraction, F_is_whole, ex, cE, vE, bE, rE, fE, mE, bin, nilA, consA, bT, andT, orT, notT, tupE, lstE, allV, allM, okB, intR, addR, asL, asT, asD, eqR, eqD_nn, eqD_bb, eqD_ii, eqD_ss, eqD_tt, eqD_ll, eqD_bi, eqD_ib, eqD_nt, eqD_tn, eqD_it, eqD_ti, eqD_ni, eqD_in, eqDs_nn, eqDs_cc, eqDs_nc, eqDs_cn, cmpD, cmpDs, depD, depDs, isNon, isNR, chainE, tvE, andV, orV, notV, ifE, slEV, ixR, callV, lenC, isiC, tyN, pick, retEV, callP, argD, argDs, seqS, bkS, ctS, exprS, retS, retNS, ifS, evSl, setS, SK.loop, gN, gNil, gCons, gT, asgS, parS, defF, defK, raiseS, absC, divmodC, mmC, stL, itL, itT, itR1, itR2, itE, shL, itZ, itV, forS, evD, methL, appL, clrL, popL, insL, trL, extL, setixS, argS, argSs, callI, callN, hereA, nextA, negE, itS, wipeR, compE, compD, yesT, seqD, listC, tupC, numd, zipd, nxS, frSl, retSl, retSls, retOk, retOks, tryAsS, tryOnlyS, lookB, kinE, xfE, lookF, frzE, isTR, isTB, allC, blsD, gU, raiseIS, at0, at1, at2, at3]
          exact h
        · obtain ⟨i, rfl⟩ := isI_true ex
          cases by'
          · simp [sf_fraction, F_is_whole, ex, ey, cE, vE, bE, rE, fE, mE, bin, nilA, consA, bT, andT, orT, notT, tupE, lstE, allV, allM, okB, intR, addR, asL, asT, asD, eqR, eqD_nn, eqD_bb, eqD_ii, eqD_ss, eqD_tt, eqD_ll, eqD_bi, eqD_ib, eqD_nt, eqD_tn, eqD_it, eqD_ti, eqD_ni, eqD_in, eqDs_nn, eqDs_cc, eqDs_nc, eqDs_cn, cmpD, cmpDs, depD, depDs, isNon, isNR, chainE, tvE, andV, orV, notV, ifE, slEV, ixR, callV, lenC, isiC, tyN, pick, retEV, callP, argD, argDs, seqS, bkS, ctS, exprS, retS, retNS, ifS, evSl, setS, SK.loop, gN, gNil, gCons, gT, asgS, parS, defF, defK, raiseS, absC, divmodC, mmC, stL, itL, itT, itR1, itR2, itE, shL, itZ, itV, forS, evD, methL, appL, clrL, popL, insL, trL, extL, setixS, argS, argSs, callI, callN, hereA, nextA, negE, itS, wipeR, compE, compD, yesT, seqD, listC, tupC, numd, zipd, nxS, frSl, retSl, retSls, retOk, retOks, tryAsS, tryOnlyS, lookB, kinE, xfE, lookF, frzE, isTR, isTB, allC, blsD, gU, raiseIS, at0, at1, at2, at3]
            exact h
          · obtain ⟨j, rfl⟩ := isI_true ey
            exact (hxy _ _ rfl rfl).elim
  · exact h.elim
theorem F_fraction_ok {a b : Int} {K E} (hb : b ≠ 0) : F_fraction [.v (.int a), .v (.int b)] K E = (Si 8100 b ∧ K (.v (frD ((a : Rat) / (b : Rat)))) []) := by
  unfold F_fraction
  simp [hb]
theorem to_two {sf : SS} {f : Rat → Rat → Rat} (h : ∀ (a b c d : Int) K E, b ≠ 0 → d ≠ 0 → Si 4000 a → Si 4000 b → Si 4000 c → Si 4000 d → K (.v (frD (f ((a : Rat) / (b : Rat)) ((c : Rat) / (d : Rat))))) [] → defF [false, false] 2 sf [.v (.tup [.int a, .int b]), .v (.tup [.int c, .int d])] K E) :
    ∀ ss K E, F_two f ss K E → defF [false, false] 2 sf ss K E := fun ss K E q => by
  unfold F_two at q
  split at q
  · obtain ⟨⟨h1, h2, h3, h4, h5, h6⟩, q⟩ := q
    exact h _ _ _ _ K E h1 h2 h3 h4 h5 h6 q
  · exact q.elim
theorem cne {b : Int} (h : b ≠ 0) : (b : Rat) ≠ 0 := by simpa using h
theorem plus_f {a b c d : Int} (hb : b ≠ 0) (hd : d ≠ 0) : ((a : Rat) * d + c * b) / (b * d) = (a : Rat) / b + (c : Rat) / d := by
  have := cne hb; have := cne hd
  grind
theorem minus_f {a b c d : Int} (hb : b ≠ 0) (hd : d ≠ 0) : ((a : Rat) * d - c * b) / (b * d) = (a : Rat) / b - (c : Rat) / d := by
  have := cne hb; have := cne hd
  grind
theorem times_f {a b c d : Int} (hb : b ≠ 0) (hd : d ≠ 0) : ((a : Rat) * c) / (b * d) = (a : Rat) / b * ((c : Rat) / d) := by
  have := cne hb; have := cne hd
  grind
theorem over_f {a b c d : Int} (hb : b ≠ 0) (hd : d ≠ 0) (hc : c ≠ 0) : ((a : Rat) * d) / (b * c) = (a : Rat) / b / ((c : Rat) / d) := by
  have := cne hb; have := cne hd; have := cne hc
  grind
theorem under_f {a b c d : Int} (hb : 0 < b) (hd : 0 < d) : ((a : Rat) / b < (c : Rat) / d) = (a * d < c * b) := by
  have hb' : (0 : Rat) < b := by exact_mod_cast hb
  have hd' : (0 : Rat) < d := by exact_mod_cast hd
  rw [Rat.div_lt_iff hb', show (c : Rat) / d * b = c * b / d by grind, Rat.lt_div_iff hd', ← Rat.intCast_mul, ← Rat.intCast_mul, Rat.intCast_lt_intCast]
theorem to_plus : ∀ ss K E, F_plus ss K E → defF [false, false] 2 sf_plus ss K E := to_two fun a b c d K E hb hd sa sb sc sd h => by
  simp [sf_plus, cE, vE, bE, rE, fE, mE, bin, nilA, consA, bT, andT, orT, notT, tupE, lstE, allV, allM, okB, intR, addR, asL, asT, asD, eqR, eqD_nn, eqD_bb, eqD_ii, eqD_ss, eqD_tt, eqD_ll, eqD_bi, eqD_ib, eqD_nt, eqD_tn, eqD_it, eqD_ti, eqD_ni, eqD_in, eqDs_nn, eqDs_cc, eqDs_nc, eqDs_cn, cmpD, cmpDs, depD, depDs, isNon, isNR, chainE, tvE, andV, orV, notV, ifE, slEV, ixR, callV, lenC, isiC, tyN, pick, retEV, callP, argD, argDs, seqS, bkS, ctS, exprS, retS, retNS, ifS, evSl, setS, SK.loop, gN, gNil, gCons, gT, asgS, parS, defF, defK, raiseS, absC, divmodC, mmC, stL, itL, itT, itR1, itR2, itE, shL, itZ, itV, forS, evD, methL, appL, clrL, popL, insL, trL, extL, setixS, argS, argSs, callI, callN, hereA, nextA, negE, itS, wipeR, compE, compD, yesT, seqD, listC, tupC, numd, zipd, nxS, frSl, retSl, retSls, retOk, retOks, tryAsS, tryOnlyS, lookB, kinE, xfE, lookF, frzE, isTR, isTB, allC, blsD, gU, raiseIS, at0, at1, at2, at3, F_fraction_ok (Int.mul_ne_zero hb hd)]
  rw [plus_f hb hd]
  exact ⟨.of sa sd (by decide), .of sc sb (by decide), .of sb sd (by decide), (sb.mul sd).mono (by decide), h⟩
theorem to_minus : ∀ ss K E, F_minus ss K E → defF [false, false] 2 sf_minus ss K E := to_two fun a b c d K E hb hd sa sb sc sd h => by
  simp [sf_minus, cE, vE, bE, rE, fE, mE, bin, nilA, consA, bT, andT, orT, notT, tupE, lstE, allV, allM, okB, intR, addR, asL, asT, asD, eqR, eqD_nn, eqD_bb, eqD_ii, eqD_ss, eqD_tt, eqD_ll, eqD_bi, eqD_ib, eqD_nt, eqD_tn, eqD_it, eqD_ti, eqD_ni, eqD_in, eqDs_nn, eqDs_cc, eqDs_nc, eqDs_cn, cmpD, cmpDs, depD, depDs, isNon, isNR, chainE, tvE, andV, orV, notV, ifE, slEV, ixR, callV, lenC, isiC, tyN, pick, retEV, callP, argD, argDs, seqS, bkS, ctS, exprS, retS, retNS, ifS, evSl, setS, SK.loop, gN, gNil, gCons, gT, asgS, parS, defF, defK, raiseS, absC, divmodC, mmC, stL, itL, itT, itR1, itR2, itE, shL, itZ, itV, forS, evD, methL, appL, clrL, popL, insL, trL, extL, setixS, argS, argSs, callI, callN, hereA, nextA, negE, itS, wipeR, compE, compD, yesT, seqD, listC, tupC, numd, zipd, nxS, frSl, retSl, retSls, retOk, retOks, tryAsS, tryOnlyS, lookB, kinE, xfE, lookF, frzE, isTR, isTB, allC, blsD, gU, raiseIS, at0, at1, at2, at3, F_fraction_ok (Int.mul_ne_zero hb hd)]
  rw [minus_f hb hd]
  exact ⟨.of sa sd (by decide), .of sc sb (by decide), .of sb sd (by decide), (sb.mul sd).mono (by decide), h⟩
theorem to_times : ∀ ss K E, F_times ss K E → defF [false, false] 2 sf_times ss K E := to_two fun a b c d K E hb hd sa sb sc sd h => by
  simp [sf_times, cE, vE, bE, rE, fE, mE, bin, nilA, consA, bT, andT, orT, notT, tupE, lstE, allV, allM, okB, intR, addR, asL, asT, asD, eqR, eqD_nn, eqD_bb, eqD_ii, eqD_ss, eqD_tt, eqD_ll, eqD_bi, eqD_ib, eqD_nt, eqD_tn, eqD_it, eqD_ti, eqD_ni, eqD_in, eqDs_nn, eqDs_cc, eqDs_nc, eqDs_cn, cmpD, cmpDs, depD, depDs, isNon, isNR, chainE, tvE, andV, orV, notV, ifE, slEV, ixR, callV, lenC, isiC, tyN, pick, retEV, callP, argD, argDs, seqS, bkS, ctS, exprS, retS, retNS, ifS, evSl, setS, SK.loop, gN, gNil, gCons, gT, asgS, parS, defF, defK, raiseS, absC, divmodC, mmC, stL, itL, itT, itR1, itR2, itE, shL, itZ, itV, forS, evD, methL, appL, clrL, popL, insL, trL, extL, setixS, argS, argSs, callI, callN, hereA, nextA, negE, itS, wipeR, compE, compD, yesT, seqD, listC, tupC, numd, zipd, nxS, frSl, retSl, retSls, retOk, retOks, tryAsS, tryOnlyS, lookB, kinE, xfE, lookF, frzE, isTR, isTB, allC, blsD, gU, raiseIS, at0, at1, at2, at3, F_fraction_ok (Int.mul_ne_zero hb hd)]
  rw [times_f hb hd]
  exact ⟨.of sa sc (by decide), .of sb sd (by decide), (sb.mul sd).mono (by decide), h⟩
theorem to_over : ∀ ss K E, F_over ss K E → defF [false, false] 2 sf_over ss K E := fun ss K E q => by
  unfold F_over at q
  split at q
  · rename_i a b c d
    obtain ⟨⟨hb, hd, sa, sb, sc, sd⟩, h⟩ := q
    by_cases hc : c = 0
    · rw [if_pos hc] at h
      subst hc
      simp [sf_over, cE, vE, bE, rE, fE, mE, bin, nilA, consA, bT, andT, orT, notT, tupE, lstE, allV, allM, okB, intR, addR, asL, asT, asD, eqR, eqD_nn, eqD_bb, eqD_ii, eqD_ss, eqD_tt, eqD_ll, eqD_bi, eqD_ib, eqD_nt, eqD_tn, eqD_it, eqD_ti, eqD_ni, eqD_in, eqDs_nn, eqDs_cc, eqDs_nc, eqDs_cn, cmpD, cmpDs, depD, depDs, isNon, isNR, chainE, tvE, andV, orV, notV, ifE, slEV, ixR, callV, lenC, isiC, tyN, pick, retEV, callP, argD, argDs, seqS, bkS, ctS, exprS, retS, retNS, ifS, evSl, setS, SK.loop, gN, gNil, gCons, gT, asgS, parS, defF, defK, raiseS, absC, divmodC, mmC, stL, itL, itT, itR1, itR2, itE, shL, itZ, itV, forS, evD, methL, appL, clrL, popL, insL, trL, extL, setixS, argS, argSs, callI, callN, hereA, nextA, negE, itS, wipeR, compE, compD, yesT, seqD, listC, tupC, numd, zipd, nxS, frSl, retSl, retSls, retOk, retOks, tryAsS, tryOnlyS, lookB, kinE, xfE, lookF, frzE, isTR, isTB, allC, blsD, gU, raiseIS, at0, at1, at2, at3, F_fraction]
      exact ⟨.of sa sd (by decide), .of sb sc (by decide), h⟩
    · rw [if_neg hc] at h
      simp [sf_over, cE, vE, bE, rE, fE, mE, bin, nilA, consA, bT, andT, orT, notT, tupE, lstE, allV, allM, okB, intR, addR, asL, asT, asD, eqR, eqD_nn, eqD_bb, eqD_ii, eqD_ss, eqD_tt, eqD_ll, eqD_bi, eqD_ib, eqD_nt, eqD_tn, eqD_it, eqD_ti, eqD_ni, eqD_in, eqDs_nn, eqDs_cc, eqDs_nc, eqDs_cn, cmpD, cmpDs, depD, depDs, isNon, isNR, chainE, tvE, andV, orV, notV, ifE, slEV, ixR, callV, lenC, isiC, tyN, pick, retEV, callP, argD, argDs, seqS, bkS, ctS, exprS, retS, retNS, ifS, evSl, setS, SK.loop, gN, gNil, gCons, gT, asgS, parS, defF, defK, raiseS, absC, divmodC, mmC, stL, itL, itT, itR1, itR2, itE, shL, itZ, itV, forS, evD, methL, appL, clrL, popL, insL, trL, extL, setixS, argS, argSs, callI, callN, hereA, nextA, negE, itS, wipeR, compE, compD, yesT, seqD, listC, tupC, numd, zipd, nxS, frSl, retSl, retSls, retOk, retOks, tryAsS, tryOnlyS, lookB, kinE, xfE, lookF, frzE, isTR, isTB, allC, blsD, gU, raiseIS, at0, at1, at2, at3, F_fraction_ok (Int.mul_ne_zero hb hc)]
      rw [over_f hb hd hc]
      exact ⟨.of sa sd (by decide), .of sb sc (by decide), (sb.mul sc).mono (by decide), h⟩
  · exact q.elim
theorem to_under : ∀ ss K E, F_under ss K E → defF [false, false] 2 sf_under ss K E := fun ss K E q => by
  unfold F_under at q
  split at q
  · rename_i a b c d
    obtain ⟨⟨hb, hd, sa, sb, sc, sd⟩, h⟩ := q
    simp [sf_under, cE, vE, bE, rE, fE, mE, bin, nilA, consA, bT, andT, orT, notT, tupE, lstE, allV, allM, okB, intR, addR, asL, asT, asD, eqR, eqD_nn, eqD_bb, eqD_ii, eqD_ss, eqD_tt, eqD_ll, eqD_bi, eqD_ib, eqD_nt, eqD_tn, eqD_it, eqD_ti, eqD_ni, eqD_in, eqDs_nn, eqDs_cc, eqDs_nc, eqDs_cn, cmpD, cmpDs, depD, depDs, isNon, isNR, chainE, tvE, andV, orV, notV, ifE, slEV, ixR, callV, lenC, isiC, tyN, pick, retEV, callP, argD, argDs, seqS, bkS, ctS, exprS, retS, retNS, ifS, evSl, setS, SK.loop, gN, gNil, gCons, gT, asgS, parS, defF, defK, raiseS, absC, divmodC, mmC, stL, itL, itT, itR1, itR2, itE, shL, itZ, itV, forS, evD, methL, appL, clrL, popL, insL, trL, extL, setixS, argS, argSs, callI, callN, hereA, nextA, negE, itS, wipeR, compE, compD, yesT, seqD, listC, tupC, numd, zipd, nxS, frSl, retSl, retSls, retOk, retOks, tryAsS, tryOnlyS, lookB, kinE, xfE, lookF, frzE, isTR, isTB, allC, blsD, gU, raiseIS, at0, at1, at2, at3]
    simp only [under_f hb hd] at h
    exact ⟨.of sa sd (by decide), .of sc sb (by decide), h⟩
  · exact q.elim
end VS
set_option Elab.async false
set_option linter.all false
set_option maxRecDepth 100000
set_option maxHeartbeats 4000000
/-! VM3: what the laws' own common defs promise, and that they do it. Own work. -/
namespace VS
open PySem PySem.Spec PyProof.Rows
theorem loop_go {g : GS} {f : SS} (k : SK) (ds0 : List D) (I : Nat → Rho → Prop) (step : ∀ (i : Nat) (d : D) (ρ : Rho) (K' : Rho → Prop), ds0[i]? = some d → I i ρ → (∀ ρ', I (i + 1) ρ' → K' ρ') → g (.v d) ρ (fun ρ1 => f ρ1 (k.loop K')))
    (done : ∀ ρ, I ds0.length ρ → k.nx ρ) : ∀ (ds : List D) (i : Nat) (ρ : Rho), ds0.drop i = ds → i ≤ ds0.length → I i ρ → loopS g f ds ρ k
  | [], i, ρ, e, hi, h => by
    have : i = ds0.length := by
      have := congrArg List.length e
      simp at this; omega
    subst this
    exact done ρ h
  | d :: ds, i, ρ, e, hi, h => by
    have hl : i < ds0.length := by
      have := congrArg List.length e
      simp at this; omega
    have e1 : ds0[i]? = some d := by
      have := congrArg (fun l => l[0]?) e
      simpa using this
    have e2 : ds0.drop (i + 1) = ds := by
      have := congrArg List.tail e
      simpa using this
    exact step i d ρ _ e1 h fun ρ' h' => loop_go k ds0 I step done ds (i + 1) ρ' e2 (by omega) h'
/-- a loop by its invariant -/
theorem loop_inv {g : GS} {f : SS} {k : SK} {ds : List D} {ρ : Rho} (I : Nat → Rho → Prop) (h0 : I 0 ρ) (step : ∀ (i : Nat) (d : D) (ρ : Rho) (K' : Rho → Prop), ds[i]? = some d → I i ρ → (∀ ρ', I (i + 1) ρ' → K' ρ') → g (.v d) ρ (fun ρ1 => f ρ1 (k.loop K')))
    (done : ∀ ρ, I ds.length ρ → k.nx ρ) : loopS g f ds ρ k := loop_go k ds I step done ds 0 ρ rfl (Nat.zero_le _) h0
theorem rngD_get {lo : Int} {n i : Nat} {d : D} (h : (rngD lo n)[i]? = some d) : i < n ∧ d = .int (lo + (i : Nat)) := by
  unfold rngD at h
  rw [List.getElem?_map] at h
  by_cases hi : i < n
  · rw [List.getElem?_range hi] at h
    exact ⟨hi, (Option.some.inj h).symm⟩
  · rw [List.getElem?_eq_none (by simpa using hi)] at h
    cases h
theorem rngD_len {lo : Int} {n : Nat} : (rngD lo n).length = n := by unfold rngD; simp
theorem Si.lit {n : Nat} {a : Int} (h : a.natAbs < 2 ^ n := by decide) : Si n a := h
/-! ### cells, boxes -/
abbrev bigB : Nat := 1100000
/-- the script -/
def isScript (ds : List D) : Prop := ∃ ns : List Int, ds = ns.map .int ∧ ns.length ≤ 63 ∧ ∀ n ∈ ns, Si bigB n
def F__law_cell : FS := fun ss K _ => match ss with
  | [.v (.lst _ ds), .v (.int k)] => (isScript ds ∧ 0 ≤ k ∧ k < 2 ^ 40) ∧ ∀ n, Si bigB n → K (.v (.int n)) []
  | _ => False
def F__law_mix : FS := fun ss K _ => match ss with
  | [.v (.int c), .v (.int k)] => (Si bigB c ∧ 0 ≤ k ∧ k < 2 ^ 40) ∧ ∀ n, 0 ≤ n → n < 2147483563 → K (.v (.int n)) []
  | _ => False
def F__law_box : FS := fun ss K _ => match ss with
  | [.v (.lst _ ds), .v (.int k)] => (isScript ds ∧ 0 ≤ k ∧ k < 2 ^ 40) ∧ ∀ n, K (.m (.l [.int n])) []
  | _ => False
def F__law_take : FS := fun ss K _ => match ss with
  | [.l [.int n], .v (.int m)] => (0 < m ∧ Si 8000 m) ∧ ∀ d n', 0 ≤ d → d < m → K (.v (.int d)) [.l [.int n']]
  | _ => False
def F__law_fit : FS := fun ss K E => match ss with
  | [.v (.int a), .v (.int b)] => (b ≠ 0 ∧ Si 8100 b) ∧ K (.v (frD ((a : Rat) / (b : Rat)))) []
  | _ => False
def F__law_plus : FS := F_plus
def F__law_minus : FS := F_minus
def F__law_times : FS := F_times
def F__law_over : FS := fun ss K E => match ss with
  | [.v (.tup [.int a, .int b]), .v (.tup [.int c, .int d])] => (b ≠ 0 ∧ d ≠ 0 ∧ c ≠ 0 ∧ Si 4000 a ∧ Si 4000 b ∧ Si 4000 c ∧ Si 4000 d) ∧ K (.v (frD (((a : Rat) / (b : Rat)) / ((c : Rat) / (d : Rat))))) []
  | _ => False
def F__law_less : FS := F_under
def sf__law_cell : SS := (seqS (ifS (bT (bin true (vE 1) (callV lenC (consA true (vE 0) nilA)) ltR)) (retS (bin true (vE 0) (vE 1) ixR)) nxS)
  (retS (bin true (bin true (cE (.int 6151)) (vE 1) (intR MulOk fun i j => .int (i * j))) (cE (.int 29)) addR)))
def sf__law_mix : SS := (seqS (setS 2 true (bin true (bin true (bin true (vE 0) (cE (.int 1)) addR) (cE (.int 40692)) (intR MulOk fun i j => .int (i * j))) (bin true (cE (.int 104729)) (vE 1) (intR MulOk fun i j => .int (i * j))) addR))
  (seqS (setS 2 true (bin true (bin true (bin true (vE 2) (vE 2) (intR MulOk fun i j => .int (i * j))) (cE (.int 2147483399)) (intR (fun _ j => j ≠ 0) fun i j => .int (i.fmod j))) (vE 1) addR))
  (retS (bin true (bin true (vE 2) (bin true (vE 2) (cE (.int 31)) addR) (intR MulOk fun i j => .int (i * j))) (cE (.int 2147483563)) (intR (fun _ j => j ≠ 0) fun i j => .int (i.fmod j))))))
def sf__law_box : SS := (seqS (setS 2 true (callP F__law_cell [] (consA true (vE 0) (consA true (vE 1) nilA))))
  (seqS (ifS (bT (bin true (bin true (vE 2) (cE (.int 2)) (intR (fun _ j => j ≠ 0) fun i j => .int (i.fmod j))) (cE (.int 0)) (eqR false))) (retS (lstE (consA true (bin true (vE 2) (cE (.int 2)) (intR DivOk fun i j => .int (i.fdiv j))) nilA))) nxS)
  (seqS (setS 3 true (cE (.int 0)))
  (seqS (forS (itR1 (consA true (cE (.int 16)) nilA)) (gN 4 true) (setS 3 true (bin true (bin true (vE 3) (cE (.int 2147483647)) (intR MulOk fun i j => .int (i * j))) (callP F__law_mix [] (consA true (vE 2) (consA true (vE 4) nilA))) addR)))
  (retS (lstE (consA true (vE 3) nilA)))))))
def sf__law_take : SS := (seqS (asgS (gT 2 (gCons (gN 2 true) (gCons (gN 3 true) gNil))) (callV divmodC (consA true (bin true (rE 0) (cE (.int 0)) ixR) (consA true (vE 1) nilA))))
  (seqS (setixS true 0 (vE 2) (cE (.int 0)))
  (retS (vE 3))))
def sf__law_fit : SS := (seqS (parS 2 3 (consA true (callV absC (consA true (vE 0) nilA)) (consA true (callV absC (consA true (vE 1) nilA)) nilA)))
  (seqS (whileS (bT (bin true (vE 3) (cE (.int 0)) gtR)) (parS 2 3 (consA true (vE 3) (consA true (bin true (vE 2) (vE 3) (intR (fun _ j => j ≠ 0) fun i j => .int (i.fmod j))) nilA))))
  (seqS (ifS (bT (bin true (vE 1) (cE (.int 0)) ltR)) (setS 2 true (bin true (cE (.int 0)) (vE 2) (intR (fun _ _ => True) fun i j => .int (i - j)))) nxS)
  (retS (tupE (consA true (bin true (vE 0) (vE 2) (intR DivOk fun i j => .int (i.fdiv j))) (consA true (bin true (vE 1) (vE 2) (intR DivOk fun i j => .int (i.fdiv j))) nilA)))))))
def sf__law_plus : SS := (retS (callP F__law_fit [] (consA true (bin true (bin true (bin true (vE 0) (cE (.int 0)) ixR) (bin true (vE 1) (cE (.int 1)) ixR) (intR MulOk fun i j => .int (i * j))) (bin true (bin true (vE 1) (cE (.int 0)) ixR) (bin true (vE 0) (cE (.int 1)) ixR) (intR MulOk fun i j => .int (i * j))) addR) (consA true (bin true (bin true (vE 0) (cE (.int 1)) ixR) (bin true (vE 1) (cE (.int 1)) ixR) (intR MulOk fun i j => .int (i * j))) nilA))))
def sf__law_minus : SS := (retS (callP F__law_fit [] (consA true (bin true (bin true (bin true (vE 0) (cE (.int 0)) ixR) (bin true (vE 1) (cE (.int 1)) ixR) (intR MulOk fun i j => .int (i * j))) (bin true (bin true (vE 1) (cE (.int 0)) ixR) (bin true (vE 0) (cE (.int 1)) ixR) (intR MulOk fun i j => .int (i * j))) (intR (fun _ _ => True) fun i j => .int (i - j))) (consA true (bin true (bin true (vE 0) (cE (.int 1)) ixR) (bin true (vE 1) (cE (.int 1)) ixR) (intR MulOk fun i j => .int (i * j))) nilA))))
def sf__law_times : SS := (retS (callP F__law_fit [] (consA true (bin true (bin true (vE 0) (cE (.int 0)) ixR) (bin true (vE 1) (cE (.int 0)) ixR) (intR MulOk fun i j => .int (i * j))) (consA true (bin true (bin true (vE 0) (cE (.int 1)) ixR) (bin true (vE 1) (cE (.int 1)) ixR) (intR MulOk fun i j => .int (i * j))) nilA))))
def sf__law_over : SS := (retS (callP F__law_fit [] (consA true (bin true (bin true (vE 0) (cE (.int 0)) ixR) (bin true (vE 1) (cE (.int 1)) ixR) (intR MulOk fun i j => .int (i * j))) (consA true (bin true (bin true (vE 0) (cE (.int 1)) ixR) (bin true (vE 1) (cE (.int 0)) ixR) (intR MulOk fun i j => .int (i * j))) nilA))))
def sf__law_less : SS := (retS (bin true (bin true (bin true (vE 0) (cE (.int 0)) ixR) (bin true (vE 1) (cE (.int 1)) ixR) (intR MulOk fun i j => .int (i * j))) (bin true (bin true (vE 1) (cE (.int 0)) ixR) (bin true (vE 0) (cE (.int 1)) ixR) (intR MulOk fun i j => .int (i * j))) ltR))
theorem m__law_cell : MonoF F__law_cell := fun ss K K' E E' hk he h => by
  unfold F__law_cell at h ⊢
  grind
theorem m__law_mix : MonoF F__law_mix := fun ss K K' E E' hk he h => by
  unfold F__law_mix at h ⊢
  grind
theorem m__law_box : MonoF F__law_box := fun ss K K' E E' hk he h => by
  unfold F__law_box at h ⊢
  grind
theorem m__law_take : MonoF F__law_take := fun ss K K' E E' hk he h => by
  unfold F__law_take at h ⊢
  grind
theorem m__law_fit : MonoF F__law_fit := fun ss K K' E E' hk he h => by
  unfold F__law_fit at h ⊢
  grind
theorem m__law_plus : MonoF F__law_plus := m_two
theorem m__law_minus : MonoF F__law_minus := m_two
theorem m__law_times : MonoF F__law_times := m_two
theorem m__law_over : MonoF F__law_over := fun ss K K' E E' hk he h => by
  unfold F__law_over at h ⊢
  grind
theorem m__law_less : MonoF F__law_less := m_under
theorem k40 {k : Int} (h : 0 ≤ k) (h2 : k < 2 ^ 40) : Si 41 k := by unfold Si; omega
theorem to__law_cell : ∀ ss K E, F__law_cell ss K E → defF [false, false] 2 sf__law_cell ss K E := fun ss K E h => by
  unfold F__law_cell at h
  split at h
  · rename_i st ds k
    obtain ⟨⟨⟨ns, rfl, hl, hs⟩, h0, h1⟩, q⟩ := h
    simp [sf__law_cell, cE, vE, bE, rE, fE, mE, bin, nilA, consA, bT, andT, orT, notT, tupE, lstE, allV, allM, okB, intR, addR, asL, asT, asD, eqR, eqD_nn, eqD_bb, eqD_ii, eqD_ss, eqD_tt, eqD_ll, eqD_bi, eqD_ib, eqD_nt, eqD_tn, eqD_it, eqD_ti, eqD_ni, eqD_in, eqDs_nn, eqDs_cc, eqDs_nc, eqDs_cn, cmpD, cmpDs, depD, depDs, isNon, isNR, chainE, tvE, andV, orV, notV, ifE, slEV, ixR, callV, lenC, isiC, tyN, pick, retEV, callP, argD, argDs, seqS, bkS, ctS, exprS, retS, retNS, ifS, evSl, setS, SK.loop, gN, gNil, gCons, gT, asgS, parS, defF, defK, raiseS, absC, divmodC, mmC, stL, itL, itT, itR1, itR2, itE, shL, itZ, itV, forS, evD, methL, appL, clrL, popL, insL, trL, extL, setixS, argS, argSs, callI, callN, hereA, nextA, negE, itS, wipeR, compE, compD, yesT, seqD, listC, tupC, numd, zipd, nxS, frSl, retSl, retSls, retOk, retOks, tryAsS, tryOnlyS, lookB, kinE, xfE, lookF, frzE, isTR, isTB, allC, blsD, gU, raiseIS, at0, at1, at2, at3]
    split
    · rename_i hk
      have hn : k.toNat < ns.length := by omega
      have e : L2.atI (ns.map D.int) k = some (.int (ns[k.toNat])) := by
        simp [L2.atI, L2.ixN, h0, hk]
      rw [e]
      exact ⟨rfl, q _ (hs _ (List.getElem_mem hn))⟩
    · refine ⟨.of (Si.lit (n := 13)) (k40 h0 h1) (by decide), q _ ?_⟩
      exact (((Si.lit (n := 13) (a := 6151)).mul (k40 h0 h1)).add (Si.lit (n := 5) (a := 29))).mono (by decide)
  · exact h.elim
theorem to__law_mix : ∀ ss K E, F__law_mix ss K E → defF [false, false] 3 sf__law_mix ss K E := fun ss K E h => by
  unfold F__law_mix at h
  split at h
  · rename_i c k
    obtain ⟨⟨hc, h0, h1⟩, q⟩ := h
    simp [sf__law_mix, cE, vE, bE, rE, fE, mE, bin, nilA, consA, bT, andT, orT, notT, tupE, lstE, allV, allM, okB, intR, addR, asL, asT, asD, eqR, eqD_nn, eqD_bb, eqD_ii, eqD_ss, eqD_tt, eqD_ll, eqD_bi, eqD_ib, eqD_nt, eqD_tn, eqD_it, eqD_ti, eqD_ni, eqD_in, eqDs_nn, eqDs_cc, eqDs_nc, eqDs_cn, cmpD, cmpDs, depD, depDs, isNon, isNR, chainE, tvE, andV, orV, notV, ifE, slEV, ixR, callV, lenC, isiC, tyN, pick, retEV, callP, argD, argDs, seqS, bkS, ctS, exprS, retS, retNS, ifS, evSl, setS, SK.loop, gN, gNil, gCons, gT, asgS, parS, defF, defK, raiseS, absC, divmodC, mmC, stL, itL, itT, itR1, itR2, itE, shL, itZ, itV, forS, evD, methL, appL, clrL, popL, insL, trL, extL, setixS, argS, argSs, callI, callN, hereA, nextA, negE, itS, wipeR, compE, compD, yesT, seqD, listC, tupC, numd, zipd, nxS, frSl, retSl, retSls, retOk, retOks, tryAsS, tryOnlyS, lookB, kinE, xfE, lookF, frzE, isTR, isTB, allC, blsD, gU, raiseIS, at0, at1, at2, at3]
    have s1 : Si (bigB + 60) (c + 1) := (hc.add (Si.lit (n := 1) (a := 1))).mono (by decide)
    have s2 : Si (bigB + 80) ((c + 1) * 40692) := (s1.mul (Si.lit (n := 16) (a := 40692))).mono (by decide)
    have s3 : Si (bigB + 90) ((c + 1) * 40692 + 104729 * k) := (s2.add ((Si.lit (n := 17) (a := 104729)).mul (k40 h0 h1))).mono (by decide)
    have s4 : Si 50 ((((c + 1) * 40692 + 104729 * k) * ((c + 1) * 40692 + 104729 * k)).fmod 2147483399 + k) := by
      have a0 := Int.fmod_nonneg_of_pos (((c + 1) * 40692 + 104729 * k) * ((c + 1) * 40692 + 104729 * k)) (b := 2147483399) (by decide)
      have a1 := Int.fmod_lt_of_pos (((c + 1) * 40692 + 104729 * k) * ((c + 1) * 40692 + 104729 * k)) (b := 2147483399) (by decide)
      unfold Si; omega
    refine ⟨.of s1 (Si.lit (n := 16)) (by decide), .of (Si.lit (n := 17)) (k40 h0 h1) (by decide), .of s3 s3 (by decide), .of s4 (s4.add (Si.lit (n := 5))) (by decide), q _ (Int.fmod_nonneg_of_pos _ (by decide)) (Int.fmod_lt_of_pos _ (by decide))⟩
  · exact h.elim
theorem to__law_take : ∀ ss K E, F__law_take ss K E → defF [true, false] 4 sf__law_take ss K E := fun ss K E h => by
  unfold F__law_take at h
  split at h
  · rename_i n m
    obtain ⟨⟨h0, h1⟩, q⟩ := h
    simp [sf__law_take, L2.ixN, cE, vE, bE, rE, fE, mE, bin, nilA, consA, bT, andT, orT, notT, tupE, lstE, allV, allM, okB, intR, addR, asL, asT, asD, eqR, eqD_nn, eqD_bb, eqD_ii, eqD_ss, eqD_tt, eqD_ll, eqD_bi, eqD_ib, eqD_nt, eqD_tn, eqD_it, eqD_ti, eqD_ni, eqD_in, eqDs_nn, eqDs_cc, eqDs_nc, eqDs_cn, cmpD, cmpDs, depD, depDs, isNon, isNR, chainE, tvE, andV, orV, notV, ifE, slEV, ixR, callV, lenC, isiC, tyN, pick, retEV, callP, argD, argDs, seqS, bkS, ctS, exprS, retS, retNS, ifS, evSl, setS, SK.loop, gN, gNil, gCons, gT, asgS, parS, defF, defK, raiseS, absC, divmodC, mmC, stL, itL, itT, itR1, itR2, itE, shL, itZ, itV, forS, evD, methL, appL, clrL, popL, insL, trL, extL, setixS, argS, argSs, callI, callN, hereA, nextA, negE, itS, wipeR, compE, compD, yesT, seqD, listC, tupC, numd, zipd, nxS, frSl, retSl, retSls, retOk, retOks, tryAsS, tryOnlyS, lookB, kinE, xfE, lookF, frzE, isTR, isTB, allC, blsD, gU, raiseIS, at0, at1, at2, at3]
    exact ⟨divOk_of h1 (by decide) (by omega), q _ _ (Int.fmod_nonneg_of_pos _ h0) (Int.fmod_lt_of_pos _ h0)⟩
  · exact h.elim
theorem to__law_box : ∀ ss K E, F__law_box ss K E → defF [false, false] 5 sf__law_box ss K E := fun ss K E h => by
  unfold F__law_box at h
  split at h
  · rename_i st ds k
    obtain ⟨⟨hs, h0, h1⟩, q⟩ := h
    simp [sf__law_box, F__law_cell, cE, vE, bE, rE, fE, mE, bin, nilA, consA, bT, andT, orT, notT, tupE, lstE, allV, allM, okB, intR, addR, asL, asT, asD, eqR, eqD_nn, eqD_bb, eqD_ii, eqD_ss, eqD_tt, eqD_ll, eqD_bi, eqD_ib, eqD_nt, eqD_tn, eqD_it, eqD_ti, eqD_ni, eqD_in, eqDs_nn, eqDs_cc, eqDs_nc, eqDs_cn, cmpD, cmpDs, depD, depDs, isNon, isNR, chainE, tvE, andV, orV, notV, ifE, slEV, ixR, callV, lenC, isiC, tyN, pick, retEV, callP, argD, argDs, seqS, bkS, ctS, exprS, retS, retNS, ifS, evSl, setS, SK.loop, gN, gNil, gCons, gT, asgS, parS, defF, defK, raiseS, absC, divmodC, mmC, stL, itL, itT, itR1, itR2, itE, shL, itZ, itV, forS, evD, methL, appL, clrL, popL, insL, trL, extL, setixS, argS, argSs, callI, callN, hereA, nextA, negE, itS, wipeR, compE, compD, yesT, seqD, listC, tupC, numd, zipd, nxS, frSl, retSl, retSls, retOk, retOks, tryAsS, tryOnlyS, lookB, kinE, xfE, lookF, frzE, isTR, isTB, allC, blsD, gU, raiseIS, at0, at1, at2, at3]
    refine ⟨⟨hs, h0, h1⟩, fun n hn => ?_⟩
    split
    · exact ⟨divOk_of (n := 10) (Si.lit (a := 2)) (by decide) (by decide), q _⟩
    · refine loop_inv (fun i ρ => ∃ x y, Si (40 * i + 40) x ∧ ρ = [.v (.lst st ds), .v (.int k), .v (.int n), .v (.int x), y]) ⟨0, .no, Si.lit, rfl⟩ ?_ ?_
      · rintro i d ρ K' hd ⟨x, y, hx, rfl⟩ next
        obtain ⟨hi, rfl⟩ := rngD_get hd
        simp [F__law_mix, cE, vE, bE, rE, fE, mE, bin, nilA, consA, bT, andT, orT, notT, tupE, lstE, allV, allM, okB, intR, addR, asL, asT, asD, eqR, eqD_nn, eqD_bb, eqD_ii, eqD_ss, eqD_tt, eqD_ll, eqD_bi, eqD_ib, eqD_nt, eqD_tn, eqD_it, eqD_ti, eqD_ni, eqD_in, eqDs_nn, eqDs_cc, eqDs_nc, eqDs_cn, cmpD, cmpDs, depD, depDs, isNon, isNR, chainE, tvE, andV, orV, notV, ifE, slEV, ixR, callV, lenC, isiC, tyN, pick, retEV, callP, argD, argDs, seqS, bkS, ctS, exprS, retS, retNS, ifS, evSl, setS, SK.loop, gN, gNil, gCons, gT, asgS, parS, defF, defK, raiseS, absC, divmodC, mmC, stL, itL, itT, itR1, itR2, itE, shL, itZ, itV, forS, evD, methL, appL, clrL, popL, insL, trL, extL, setixS, argS, argSs, callI, callN, hereA, nextA, negE, itS, wipeR, compE, compD, yesT, seqD, listC, tupC, numd, zipd, nxS, frSl, retSl, retSls, retOk, retOks, tryAsS, tryOnlyS, lookB, kinE, xfE, lookF, frzE, isTR, isTB, allC, blsD, gU, raiseIS, at0, at1, at2, at3]
        refine ⟨.of hx (Si.lit (n := 31)) (by omega), ⟨hn, by omega⟩, fun m m0 m1 => next _ ⟨_, _, ?_, rfl⟩⟩
        refine ((hx.mul (Si.lit (n := 31) (a := 2147483647))).add (m := 31) (b := m) (by unfold Si; omega)).mono (by omega)
      · rintro ρ ⟨x, y, hx, rfl⟩
        simp [cE, vE, bE, rE, fE, mE, bin, nilA, consA, bT, andT, orT, notT, tupE, lstE, allV, allM, okB, intR, addR, asL, asT, asD, eqR, eqD_nn, eqD_bb, eqD_ii, eqD_ss, eqD_tt, eqD_ll, eqD_bi, eqD_ib, eqD_nt, eqD_tn, eqD_it, eqD_ti, eqD_ni, eqD_in, eqDs_nn, eqDs_cc, eqDs_nc, eqDs_cn, cmpD, cmpDs, depD, depDs, isNon, isNR, chainE, tvE, andV, orV, notV, ifE, slEV, ixR, callV, lenC, isiC, tyN, pick, retEV, callP, argD, argDs, seqS, bkS, ctS, exprS, retS, retNS, ifS, evSl, setS, SK.loop, gN, gNil, gCons, gT, asgS, parS, defF, defK, raiseS, absC, divmodC, mmC, stL, itL, itT, itR1, itR2, itE, shL, itZ, itV, forS, evD, methL, appL, clrL, popL, insL, trL, extL, setixS, argS, argSs, callI, callN, hereA, nextA, negE, itS, wipeR, compE, compD, yesT, seqD, listC, tupC, numd, zipd, nxS, frSl, retSl, retSls, retOk, retOks, tryAsS, tryOnlyS, lookB, kinE, xfE, lookF, frzE, isTR, isTB, allC, blsD, gU, raiseIS, at0, at1, at2, at3]
        exact q _
  · exact h.elim
theorem to__law_fit : ∀ ss K E, F__law_fit ss K E → defF [false, false] 4 sf__law_fit ss K E := fun ss K E h => by
  unfold F__law_fit at h
  split at h
  · rename_i a b
    obtain ⟨⟨hb, h1⟩, h2⟩ := h
    refine ⟨rfl, ?_⟩
    have ea : (if a < 0 then -a else a) = (a.natAbs : Int) := by split <;> omega
    have eb : (if b < 0 then -b else b) = (b.natAbs : Int) := by split <;> omega
    unfold sf__law_fit
    simp only [seqS, parS, consA, nilA, callV, vE, absC, List.length_cons, List.length_nil, List.replicate, List.cons_append, List.nil_append, List.getElem?_cons_zero, List.getElem?_cons_succ, evSl, List.set, okB, ea, eb, true_and]
    refine ⟨by decide, by decide, ?_⟩
    refine gcd_while (i := 2) (j := 3) (by decide) _ (a.natAbs : Int) (b.natAbs : Int) _ rfl rfl (by omega) (by omega) ?_
    simp [gcd_nat, cE, vE, bE, rE, fE, mE, bin, nilA, consA, bT, andT, orT, notT, tupE, lstE, allV, allM, okB, intR, addR, asL, asT, asD, eqR, eqD_nn, eqD_bb, eqD_ii, eqD_ss, eqD_tt, eqD_ll, eqD_bi, eqD_ib, eqD_nt, eqD_tn, eqD_it, eqD_ti, eqD_ni, eqD_in, eqDs_nn, eqDs_cc, eqDs_nc, eqDs_cn, cmpD, cmpDs, depD, depDs, isNon, isNR, chainE, tvE, andV, orV, notV, ifE, slEV, ixR, callV, lenC, isiC, tyN, pick, retEV, callP, argD, argDs, seqS, bkS, ctS, exprS, retS, retNS, ifS, evSl, setS, SK.loop, gN, gNil, gCons, gT, asgS, parS, defF, defK, raiseS, absC, divmodC, mmC, stL, itL, itT, itR1, itR2, itE, shL, itZ, itV, forS, evD, methL, appL, clrL, popL, insL, trL, extL, setixS, argS, argSs, callI, callN, hereA, nextA, negE, itS, wipeR, compE, compD, yesT, seqD, listC, tupC, numd, zipd, nxS, frSl, retSl, retSls, retOk, retOks, tryAsS, tryOnlyS, lookB, kinE, xfE, lookF, frzE, isTR, isTB, allC, blsD, gU, raiseIS, at0, at1, at2, at3]
    unfold frD at h2
    rw [frac_num hb, frac_den hb] at h2
    have g0 := gcd_pos (a := a) hb
    have gs := gcd_si (a := a) h1 hb
    split
    · rename_i hn
      rw [if_pos hn, Int.zero_sub] at h2
      exact ⟨divOk_of gs.neg (by decide) (by omega), divOk_of gs.neg (by decide) (by omega), h2⟩
    · rename_i hn
      rw [if_neg hn] at h2
      exact ⟨divOk_of gs (by decide) (by omega), divOk_of gs (by decide) (by omega), h2⟩
  · exact h.elim
theorem to__law_plus : ∀ ss K E, F__law_plus ss K E → defF [false, false] 2 sf__law_plus ss K E := to_two fun a b c d K E hb hd sa sb sc sd h => by
  simp [sf__law_plus, cE, vE, bE, rE, fE, mE, bin, nilA, consA, bT, andT, orT, notT, tupE, lstE, allV, allM, okB, intR, addR, asL, asT, asD, eqR, eqD_nn, eqD_bb, eqD_ii, eqD_ss, eqD_tt, eqD_ll, eqD_bi, eqD_ib, eqD_nt, eqD_tn, eqD_it, eqD_ti, eqD_ni, eqD_in, eqDs_nn, eqDs_cc, eqDs_nc, eqDs_cn, cmpD, cmpDs, depD, depDs, isNon, isNR, chainE, tvE, andV, orV, notV, ifE, slEV, ixR, callV, lenC, isiC, tyN, pick, retEV, callP, argD, argDs, seqS, bkS, ctS, exprS, retS, retNS, ifS, evSl, setS, SK.loop, gN, gNil, gCons, gT, asgS, parS, defF, defK, raiseS, absC, divmodC, mmC, stL, itL, itT, itR1, itR2, itE, shL, itZ, itV, forS, evD, methL, appL, clrL, popL, insL, trL, extL, setixS, argS, argSs, callI, callN, hereA, nextA, negE, itS, wipeR, compE, compD, yesT, seqD, listC, tupC, numd, zipd, nxS, frSl, retSl, retSls, retOk, retOks, tryAsS, tryOnlyS, lookB, kinE, xfE, lookF, frzE, isTR, isTB, allC, blsD, gU, raiseIS, at0, at1, at2, at3, F__law_fit, Int.mul_ne_zero hb hd, hb, hd]
  rw [plus_f hb hd]
  exact ⟨.of sa sd (by decide), .of sc sb (by decide), .of sb sd (by decide), (sb.mul sd).mono (by decide), h⟩
theorem to__law_minus : ∀ ss K E, F__law_minus ss K E → defF [false, false] 2 sf__law_minus ss K E := to_two fun a b c d K E hb hd sa sb sc sd h => by
  simp [sf__law_minus, cE, vE, bE, rE, fE, mE, bin, nilA, consA, bT, andT, orT, notT, tupE, lstE, allV, allM, okB, intR, addR, asL, asT, asD, eqR, eqD_nn, eqD_bb, eqD_ii, eqD_ss, eqD_tt, eqD_ll, eqD_bi, eqD_ib, eqD_nt, eqD_tn, eqD_it, eqD_ti, eqD_ni, eqD_in, eqDs_nn, eqDs_cc, eqDs_nc, eqDs_cn, cmpD, cmpDs, depD, depDs, isNon, isNR, chainE, tvE, andV, orV, notV, ifE, slEV, ixR, callV, lenC, isiC, tyN, pick, retEV, callP, argD, argDs, seqS, bkS, ctS, exprS, retS, retNS, ifS, evSl, setS, SK.loop, gN, gNil, gCons, gT, asgS, parS, defF, defK, raiseS, absC, divmodC, mmC, stL, itL, itT, itR1, itR2, itE, shL, itZ, itV, forS, evD, methL, appL, clrL, popL, insL, trL, extL, setixS, argS, argSs, callI, callN, hereA, nextA, negE, itS, wipeR, compE, compD, yesT, seqD, listC, tupC, numd, zipd, nxS, frSl, retSl, retSls, retOk, retOks, tryAsS, tryOnlyS, lookB, kinE, xfE, lookF, frzE, isTR, isTB, allC, blsD, gU, raiseIS, at0, at1, at2, at3, F__law_fit, Int.mul_ne_zero hb hd, hb, hd]
  rw [minus_f hb hd]
  exact ⟨.of sa sd (by decide), .of sc sb (by decide), .of sb sd (by decide), (sb.mul sd).mono (by decide), h⟩
theorem to__law_times : ∀ ss K E, F__law_times ss K E → defF [false, false] 2 sf__law_times ss K E := to_two fun a b c d K E hb hd sa sb sc sd h => by
  simp [sf__law_times, cE, vE, bE, rE, fE, mE, bin, nilA, consA, bT, andT, orT, notT, tupE, lstE, allV, allM, okB, intR, addR, asL, asT, asD, eqR, eqD_nn, eqD_bb, eqD_ii, eqD_ss, eqD_tt, eqD_ll, eqD_bi, eqD_ib, eqD_nt, eqD_tn, eqD_it, eqD_ti, eqD_ni, eqD_in, eqDs_nn, eqDs_cc, eqDs_nc, eqDs_cn, cmpD, cmpDs, depD, depDs, isNon, isNR, chainE, tvE, andV, orV, notV, ifE, slEV, ixR, callV, lenC, isiC, tyN, pick, retEV, callP, argD, argDs, seqS, bkS, ctS, exprS, retS, retNS, ifS, evSl, setS, SK.loop, gN, gNil, gCons, gT, asgS, parS, defF, defK, raiseS, absC, divmodC, mmC, stL, itL, itT, itR1, itR2, itE, shL, itZ, itV, forS, evD, methL, appL, clrL, popL, insL, trL, extL, setixS, argS, argSs, callI, callN, hereA, nextA, negE, itS, wipeR, compE, compD, yesT, seqD, listC, tupC, numd, zipd, nxS, frSl, retSl, retSls, retOk, retOks, tryAsS, tryOnlyS, lookB, kinE, xfE, lookF, frzE, isTR, isTB, allC, blsD, gU, raiseIS, at0, at1, at2, at3, F__law_fit, Int.mul_ne_zero hb hd, hb, hd]
  rw [times_f hb hd]
  exact ⟨.of sa sc (by decide), .of sb sd (by decide), (sb.mul sd).mono (by decide), h⟩
theorem to__law_over : ∀ ss K E, F__law_over ss K E → defF [false, false] 2 sf__law_over ss K E := fun ss K E q => by
  unfold F__law_over at q
  split at q
  · rename_i a b c d
    obtain ⟨⟨hb, hd, hc, sa, sb, sc, sd⟩, h⟩ := q
    simp [sf__law_over, cE, vE, bE, rE, fE, mE, bin, nilA, consA, bT, andT, orT, notT, tupE, lstE, allV, allM, okB, intR, addR, asL, asT, asD, eqR, eqD_nn, eqD_bb, eqD_ii, eqD_ss, eqD_tt, eqD_ll, eqD_bi, eqD_ib, eqD_nt, eqD_tn, eqD_it, eqD_ti, eqD_ni, eqD_in, eqDs_nn, eqDs_cc, eqDs_nc, eqDs_cn, cmpD, cmpDs, depD, depDs, isNon, isNR, chainE, tvE, andV, orV, notV, ifE, slEV, ixR, callV, lenC, isiC, tyN, pick, retEV, callP, argD, argDs, seqS, bkS, ctS, exprS, retS, retNS, ifS, evSl, setS, SK.loop, gN, gNil, gCons, gT, asgS, parS, defF, defK, raiseS, absC, divmodC, mmC, stL, itL, itT, itR1, itR2, itE, shL, itZ, itV, forS, evD, methL, appL, clrL, popL, insL, trL, extL, setixS, argS, argSs, callI, callN, hereA, nextA, negE, itS, wipeR, compE, compD, yesT, seqD, listC, tupC, numd, zipd, nxS, frSl, retSl, retSls, retOk, retOks, tryAsS, tryOnlyS, lookB, kinE, xfE, lookF, frzE, isTR, isTB, allC, blsD, gU, raiseIS, at0, at1, at2, at3, F__law_fit, hb, hc]
    rw [over_f hb hd hc]
    exact ⟨.of sa sd (by decide), .of sb sc (by decide), (sb.mul sc).mono (by decide), h⟩
  · exact q.elim
theorem to__law_less : ∀ ss K E, F__law_less ss K E → defF [false, false] 2 sf__law_less ss K E := to_under
end VS
set_option Elab.async false
set_option linter.all false
set_option maxRecDepth 100000
set_option maxHeartbeats 4000000
/-! VM4: how two bodies part; drawn bodies. Own work. -/
set_option Elab.async false
set_option linter.all false
set_option maxRecDepth 100000
set_option maxHeartbeats 4000000
/-! VM5: push and might; two drawn bodies. Own work. -/
namespace VS
open PySem PySem.Spec PyProof.Rows
/-- a body, by its numbers -/
structure Bd where
  a : Int
  b : Int
  c : Int
  d : Int
  m : Int
abbrev Bd.u (x : Bd) : Rat := (x.c : Rat) / (x.d : Rat)
def gv_NOUGHT : D := .tup [.int 0, .int 1]
theorem Sm.zero : Sm 1 0 := ⟨by show Si 1 (0 : Int); exact Si.lit, by show Si 1 (1 : Int); exact Si.lit⟩
theorem step_lt (q : Rat) {x y : Int} (h0 : 0 ≤ x) (h1 : 0 ≤ y) : q < q + (1 + (x : Rat)) / (1 + (y : Rat)) := by
  have hx : (0 : Rat) < 1 + (x : Rat) := by
    have : (0 : Rat) ≤ (x : Rat) := by exact_mod_cast h0
    grind
  have hy : (0 : Rat) < 1 + (y : Rat) := by
    have : (0 : Rat) ≤ (y : Rat) := by exact_mod_cast h1
    grind
  have : 0 < (1 + (x : Rat)) / (1 + (y : Rat)) := by
    rw [Rat.div_def]
    exact Rat.mul_pos hx (Rat.inv_pos.mpr hy)
  grind
end VS
set_option Elab.async false
set_option linter.all false
set_option maxRecDepth 100000
set_option maxHeartbeats 4000000
/-! VM6: bodies with fractions. Own work. -/
namespace VS
open PySem PySem.Spec PyProof.Rows
/-- a body -/
structure Bw where
  p : Rat
  u : Rat
  m : Int
def wD (b : Bw) : D := .tup [frD b.p, frD b.u, .int b.m]
theorem retOks_w : ∀ bs : List Bw, retOks (bs.map wD) = true
  | [] => rfl
  | b :: bs => by
    rw [List.map_cons]
    show (retOk (wD b) && retOks (bs.map wD)) = true
    rw [retOks_w bs]
    rfl
end VS
set_option Elab.async false
set_option linter.all false
set_option maxRecDepth 100000
set_option maxHeartbeats 4000000
/-! VM7: bodies seen from a speed, mirrored. Own work. -/
namespace VS
theorem Sm.n {k n : Nat} {q : Rat} (h : Sm k q) (hk : k ≤ n := by decide) : Si n q.num := Si.mono h.1 hk
theorem Sm.d {k n : Nat} {q : Rat} (h : Sm k q) (hk : k ≤ n := by decide) : Si n q.den := Si.mono h.2 hk
theorem dpos (q : Rat) : 0 < q.den := q.den_pos
theorem Sm.neg {k : Nat} {q : Rat} (h : Sm k q) : Sm k (-q) := ⟨by rw [Rat.neg_num]; exact h.1.neg, by rw [Rat.neg_den]; exact h.2⟩
end VS
set_option Elab.async false
set_option linter.all false
set_option maxRecDepth 100000
set_option maxHeartbeats 4000000
/-! VM8: the classes' names apart; the meeting of two. Own work. -/
namespace VS
open PySem PySem.Spec PyProof.Rows
open L2 (V Hp Cx WX)
abbrev noWorld (k : Int) : Exc := ⟨"NoWorld", ["at"], [.int k]⟩
theorem z1 (x : Rat) : 0 / x = 0 := by grind
theorem sm4k {k : Nat} {a b : Int} (ha : Si k a) (hb : Si k b) (h0 : b ≠ 0) : Sm k ((a : Rat) / (b : Rat)) := by
  have := Sm.div ha hb h0
  rwa [Nat.max_self] at this
end VS
set_option Elab.async false
set_option linter.all false
set_option maxRecDepth 100000
set_option maxHeartbeats 4000000
/-! VM9: worlds of likes, drawn; a time later. Own work. -/
namespace VS
open PySem PySem.Spec PyProof.Rows
open L2 (V Hp Cx WX)
def mvW (t : Rat) (b : Bw) : Bw := ⟨b.p + b.u * t, b.u, b.m⟩
def F_need_likes : FS := fun ss K E => ∃ (st : Bool) (bs : List Bw), ss = [.v (.lst st (bs.map wD))] ∧ bs.length ≤ 1000 ∧ match bs.findIdx? (fun b => b.m != (bs.headD ⟨0, 0, 0⟩).m) with
  | none => K (.v .non) []
  | some k => E (noWorld (k : Nat)) []
def sf_need_likes : SS := (forS (itE (consA true (vE 0) nilA)) (gT 2 (gCons (gN 1 true) (gCons (gN 2 true) gNil))) (ifS (bT (bin true (bin true (vE 2) (cE (.int 2)) ixR) (bin true (bin true (vE 0) (cE (.int 0)) ixR) (cE (.int 2)) ixR) (eqR true))) (raiseIS "NoWorld" ["at"] (consA true (vE 1) nilA)) nxS))
theorem m_need_likes : MonoF F_need_likes := fun ss K K' E E' hk he ⟨st, bs, h1, h2, h3⟩ => ⟨st, bs, h1, h2, by
  split at h3
  · exact hk _ _ h3
  · exact he _ _ h3⟩
theorem atI_of {α : Type} {xs : List α} {i : Int} {x : α} (h0 : 0 ≤ i) (h : xs[i.toNat]? = some x) : L2.atI xs i = some x := by
  have hl := (List.getElem?_eq_some_iff.mp h).1
  unfold L2.atI L2.ixN
  rw [if_pos h0, if_pos (by omega)]
  exact h
theorem atI_nat {α : Type} {xs : List α} {i : Nat} {x : α} (h : xs[i]? = some x) : L2.atI xs (i : Int) = some x := atI_of (by omega) (by simpa using h)
theorem wt_none {bs : List Bw} {m : Int} (h : ∀ b ∈ bs, b.m = m) : bs.findIdx? (fun b => b.m != (bs.headD ⟨0, 0, 0⟩).m) = none := by
  rw [List.findIdx?_eq_none_iff]
  intro b hb
  cases bs with
  | nil => simp at hb
  | cons c cs => simp [h b hb, h c List.mem_cons_self]
theorem likes_loop {st : Bool} {bs : List Bw} {hd : Bw} (hh : bs.headD ⟨0, 0, 0⟩ = hd) (hz : bs[0]? = some hd) {k : SK} : ∀ (cs : List Bw) (n : Nat) (x1 x2 : Sl),
    (match cs.findIdx? (fun b => b.m != hd.m) with
      | none => ∀ x1 x2, k.nx [.v (.lst st (bs.map wD)), x1, x2]
      | some i => ∀ x1 x2, k.ex (noWorld ((n + i : Nat) : Int)) [.v (.lst st (bs.map wD)), x1, x2]) →
    loopS (gT 2 (gCons (gN 1 true) (gCons (gN 2 true) gNil))) (ifS (bT (bin true (bin true (vE 2) (cE (.int 2)) ixR) (bin true (bin true (vE 0) (cE (.int 0)) ixR) (cE (.int 2)) ixR) (eqR true))) (raiseIS "NoWorld" ["at"] (consA true (vE 1) nilA)) nxS) (numd n (cs.map wD)) [.v (.lst st (bs.map wD)), x1, x2] k
  | [], n, x1, x2, h => by
    simp [loopS, numd]
    simpa using h x1 x2
  | c :: cs, n, x1, x2, h => by
    rw [List.findIdx?_cons] at h
    have e0 : L2.atI (bs.map wD) 0 = some (wD hd) := atI_of (by decide) (by rw [List.getElem?_map]; simpa using congrArg (Option.map wD) hz)
    rw [List.map_cons, numd]
    by_cases hc : c.m = hd.m
    · have ih := likes_loop (k := k) hh hz cs (n + 1) (.v (.int (n : Nat))) (.v (wD c)) (by
        simp [hc] at h
        cases e : cs.findIdx? (fun b => b.m != hd.m) with
        | none => rw [e] at h; simpa using h
        | some i =>
          rw [e] at h
          intro x1 x2
          have := h x1 x2
          rw [show n + 1 + i = n + (i + 1) by omega]
          simpa using this)
      simp [loopS, cE, vE, bE, rE, fE, mE, bin, nilA, consA, bT, andT, orT, notT, tupE, lstE, allV, allM, okB, intR, addR, asL, asT, asD, eqR, eqD_nn, eqD_bb, eqD_ii, eqD_ss, eqD_tt, eqD_ll, eqD_bi, eqD_ib, eqD_nt, eqD_tn, eqD_it, eqD_ti, eqD_ni, eqD_in, eqDs_nn, eqDs_cc, eqDs_nc, eqDs_cn, cmpD, cmpDs, depD, depDs, isNon, isNR, chainE, tvE, andV, orV, notV, ifE, slEV, ixR, callV, lenC, isiC, tyN, pick, retEV, callP, argD, argDs, seqS, bkS, ctS, exprS, retS, retNS, ifS, evSl, setS, SK.loop, gN, gNil, gCons, gT, asgS, parS, defF, defK, raiseS, absC, divmodC, mmC, stL, itL, itT, itR1, itR2, itE, shL, itZ, itV, forS, evD, methL, appL, clrL, popL, insL, trL, extL, setixS, argS, argSs, callI, callN, hereA, nextA, negE, itS, wipeR, compE, compD, yesT, seqD, listC, tupC, numd, zipd, nxS, frSl, retSl, retSls, retOk, retOks, tryAsS, tryOnlyS, lookB, kinE, xfE, lookF, frzE, isTR, isTB, allC, blsD, gU, raiseIS, at0, at1, at2, at3, e0, wD, hc] at ih ⊢
      exact ih
    · simp [hc] at h
      simp [loopS, cE, vE, bE, rE, fE, mE, bin, nilA, consA, bT, andT, orT, notT, tupE, lstE, allV, allM, okB, intR, addR, asL, asT, asD, eqR, eqD_nn, eqD_bb, eqD_ii, eqD_ss, eqD_tt, eqD_ll, eqD_bi, eqD_ib, eqD_nt, eqD_tn, eqD_it, eqD_ti, eqD_ni, eqD_in, eqDs_nn, eqDs_cc, eqDs_nc, eqDs_cn, cmpD, cmpDs, depD, depDs, isNon, isNR, chainE, tvE, andV, orV, notV, ifE, slEV, ixR, callV, lenC, isiC, tyN, pick, retEV, callP, argD, argDs, seqS, bkS, ctS, exprS, retS, retNS, ifS, evSl, setS, SK.loop, gN, gNil, gCons, gT, asgS, parS, defF, defK, raiseS, absC, divmodC, mmC, stL, itL, itT, itR1, itR2, itE, shL, itZ, itV, forS, evD, methL, appL, clrL, popL, insL, trL, extL, setixS, argS, argSs, callI, callN, hereA, nextA, negE, itS, wipeR, compE, compD, yesT, seqD, listC, tupC, numd, zipd, nxS, frSl, retSl, retSls, retOk, retOks, tryAsS, tryOnlyS, lookB, kinE, xfE, lookF, frzE, isTR, isTB, allC, blsD, gU, raiseIS, at0, at1, at2, at3, e0, wD, hc]
      simpa using h _ _
theorem to_need_likes : ∀ ss K E, F_need_likes ss K E → defF [false] 3 sf_need_likes ss K E := fun ss K E h => by
  obtain ⟨st, bs, rfl, hl, h⟩ := h
  simp only [sf_need_likes, forS, itE, consA, nilA, vE, stL, shL, defF, defK, List.length_cons, List.length_nil, List.cons_append, List.nil_append, List.replicate, List.getElem?_cons_zero, List.getElem?_cons_succ, true_and, okB]
  cases bs with
  | nil =>
    simp [numd, loopS, cE, vE, bE, rE, fE, mE, bin, nilA, consA, bT, andT, orT, notT, tupE, lstE, allV, allM, okB, intR, addR, asL, asT, asD, eqR, eqD_nn, eqD_bb, eqD_ii, eqD_ss, eqD_tt, eqD_ll, eqD_bi, eqD_ib, eqD_nt, eqD_tn, eqD_it, eqD_ti, eqD_ni, eqD_in, eqDs_nn, eqDs_cc, eqDs_nc, eqDs_cn, cmpD, cmpDs, depD, depDs, isNon, isNR, chainE, tvE, andV, orV, notV, ifE, slEV, ixR, callV, lenC, isiC, tyN, pick, retEV, callP, argD, argDs, seqS, bkS, ctS, exprS, retS, retNS, ifS, evSl, setS, SK.loop, gN, gNil, gCons, gT, asgS, parS, defF, defK, raiseS, absC, divmodC, mmC, stL, itL, itT, itR1, itR2, itE, shL, itZ, itV, forS, evD, methL, appL, clrL, popL, insL, trL, extL, setixS, argS, argSs, callI, callN, hereA, nextA, negE, itS, wipeR, compE, compD, yesT, seqD, listC, tupC, numd, zipd, nxS, frSl, retSl, retSls, retOk, retOks, tryAsS, tryOnlyS, lookB, kinE, xfE, lookF, frzE, isTR, isTB, allC, blsD, gU, raiseIS, at0, at1, at2, at3]
    simpa using h
  | cons b bs =>
    refine likes_loop (hd := b) rfl rfl (b :: bs) 0 .no .no ?_
    have h' : match List.findIdx? (fun c => c.m != b.m) (b :: bs) with
      | none => K (.v .non) []
      | some k => E (noWorld (k : Nat)) [] := h
    split at h'
    · exact fun x1 x2 => ⟨rfl, h'⟩
    · intro x1 x2
      rw [Nat.zero_add]
      exact ⟨⟨rfl, rfl⟩, h'⟩
theorem pick2 {a b x : Int} (h0 : 0 ≤ x) (h1 : x < 2) (ha : 0 < a) (hb : 0 < b) : ∃ M : Int, L2.atI [D.int a, D.int b] x = some (.int M) ∧ 0 < M ∧ (M = a ∨ M = b) := by
  have : x = 0 ∨ x = 1 := by omega
  rcases this with rfl | rfl
  · exact ⟨a, at0, ha, .inl rfl⟩
  · exact ⟨b, at1, hb, .inr rfl⟩
theorem pick3' {a b c x : Int} (h0 : 0 ≤ x) (h1 : x < 3) (ha : 0 < a) (hb : 0 < b) (hc : 0 < c) : ∃ M : Int, L2.atI [D.int a, D.int b, D.int c] x = some (.int M) ∧ 0 < M ∧ (M = a ∨ M = b ∨ M = c) := by
  have : x = 0 ∨ x = 1 ∨ x = 2 := by omega
  rcases this with rfl | rfl | rfl
  · exact ⟨a, at0, ha, .inl rfl⟩
  · exact ⟨b, at1, hb, .inr (.inl rfl)⟩
  · exact ⟨c, at2, hc, .inr (.inr rfl)⟩
theorem frac_sm {x y : Int} {k : Nat} (hx : Si k (1 + x)) (hy : Si k (1 + y)) (y0 : 0 ≤ y) : Sm k ((1 + (x : Rat)) / (1 + (y : Rat))) := by
  have := sm4k hx hy (by omega)
  rwa [Rat.intCast_add, Rat.intCast_add] at this
theorem frac_pos {x y : Int} (x0 : 0 ≤ x) (y0 : 0 ≤ y) : 0 < (1 + (x : Rat)) / (1 + (y : Rat)) := by
  have := step_lt 0 x0 y0
  grind
theorem numd_len : ∀ (ds : List D) (k : Nat), (numd k ds).length = ds.length
  | [], _ => rfl
  | d :: ds, k => by rw [numd, List.length_cons, List.length_cons, numd_len ds (k + 1)]
end VS
set_option Elab.async false
set_option linter.all false
set_option maxRecDepth 100000
set_option maxHeartbeats 4000000
/-! VM10: bodies by places and speeds. Own work. -/
namespace VS
open PySem PySem.Spec PyProof.Rows
open L2 (V Hp Cx WX)
theorem while_inv {t : BS} {f : SS} {k : SK} {ρ : Rho} {n : Nat} (I : Nat → Rho → Prop) (h0 : I n ρ) (step : ∀ (m : Nat) (ρ : Rho) (K' : Rho → Prop), I m ρ → (∀ m' ρ', m' < m → I m' ρ' → K' ρ') → t ρ (fun b ρ1 => if b = true then f ρ1 (k.loop K') else k.nx ρ1) k.ex) : whileS t f ρ k := by
  refine ⟨n + 1, ?_⟩
  have go : ∀ (l m : Nat) (ρ : Rho), m < l → I m ρ → whileN t f l ρ k := fun l => by
    induction l with
    | zero => intro m ρ h; omega
    | succ l ih => exact fun m ρ h hi => step m ρ _ hi fun m' ρ' h1 h2 => ih m' ρ' (by omega) h2
  exact go (n + 1) n ρ (by omega) h0
theorem rat_eq {p q : Rat} : (p.num = q.num ∧ (p.den : Int) = (q.den : Int)) ↔ p = q := ⟨fun h => Rat.ext h.1 (by exact_mod_cast h.2), fun h => by rw [h]; exact ⟨rfl, rfl⟩⟩
/-- ahead by place, then by speed -/
def ltW (a b : Bw) : Prop := a.p < b.p ∨ (a.p = b.p ∧ a.u < b.u)
instance (a b : Bw) : Decidable (ltW a b) := by unfold ltW; infer_instance
theorem ltW_irr {a : Bw} : ¬ ltW a a := fun h => by unfold ltW at h; grind
theorem ltW_trans {a b c : Bw} (h1 : ltW a b) (h2 : ltW b c) : ltW a c := by unfold ltW at *; grind
theorem ltW_asym {a b : Bw} (h1 : ltW a b) : ¬ ltW b a := fun h => ltW_irr (ltW_trans h1 h)
/-- put where it belongs -/
def ins (xs : List (Bw × Nat)) (x : Bw × Nat) : List (Bw × Nat) := xs.take (xs.countP fun y => decide (ltW y.1 x.1)) ++ [x] ++ xs.drop (xs.countP fun y => decide (ltW y.1 x.1))
def Srt (xs : List (Bw × Nat)) : Prop := xs.Pairwise fun a b => ltW a.1 b.1
def Apart (xs : List (Bw × Nat)) (b : Bw) : Prop := ∀ x ∈ xs, ltW x.1 b ∨ ltW b x.1
theorem split_at {xs : List (Bw × Nat)} {b : Bw} {k : Nat} (hk : k ≤ xs.length) (h1 : ∀ x ∈ xs.take k, ltW x.1 b) (h2 : ∀ x ∈ xs.drop k, ¬ ltW x.1 b) : xs.countP (fun y => decide (ltW y.1 b)) = k := by
  conv => lhs; rw [← List.take_append_drop k xs]
  rw [List.countP_append, List.countP_eq_length.mpr (fun x hx => by simpa using h1 x hx), List.countP_eq_zero.mpr (fun x hx => by simpa using h2 x hx), List.length_take]
  omega
/-- in a sorted list just the first ones are ahead -/
theorem srt_split {b : Bw} : ∀ {xs : List (Bw × Nat)}, Srt xs → (∀ x ∈ xs.take (xs.countP fun y => decide (ltW y.1 b)), ltW x.1 b) ∧ ∀ x ∈ xs.drop (xs.countP fun y => decide (ltW y.1 b)), ¬ ltW x.1 b
  | [], _ => ⟨fun x h => by simp at h, fun x h => by simp at h⟩
  | y :: xs, h => by
    obtain ⟨hy, hs⟩ := List.pairwise_cons.mp h
    obtain ⟨i1, i2⟩ := srt_split (b := b) hs
    by_cases hb : ltW y.1 b
    · rw [List.countP_cons_of_pos (by simpa using hb)]
      refine ⟨fun x hx => ?_, fun x hx => ?_⟩
      · rw [List.take_succ_cons] at hx
        rcases List.mem_cons.mp hx with rfl | hx
        · exact hb
        · exact i1 x hx
      · rw [List.drop_succ_cons] at hx
        exact i2 x hx
    · have h0 : ∀ x ∈ xs, ¬ ltW x.1 b := fun x hx z => hb (ltW_trans (hy x hx) z)
      have e : (y :: xs).countP (fun z => decide (ltW z.1 b)) = 0 := List.countP_eq_zero.mpr fun x hx => by
        rcases List.mem_cons.mp hx with rfl | hx
        · simpa using hb
        · simpa using h0 x hx
      rw [e]
      refine ⟨fun x hx => by simp at hx, fun x hx => ?_⟩
      rw [List.drop_zero] at hx
      rcases List.mem_cons.mp hx with rfl | hx
      · exact hb
      · exact h0 x hx
theorem ins_srt {xs : List (Bw × Nat)} {x : Bw × Nat} (hs : Srt xs) (ha : Apart xs x.1) : Srt (ins xs x) := by
  obtain ⟨h1, h2⟩ := srt_split (b := x.1) hs
  unfold ins
  generalize (xs.countP fun y => decide (ltW y.1 x.1)) = k at *
  unfold Srt
  rw [List.append_assoc]
  refine List.pairwise_append.mpr ⟨hs.sublist (List.take_sublist _ _), ?_, fun a ha' b hb => ?_⟩
  · rw [List.singleton_append]
    refine List.pairwise_cons.mpr ⟨fun b hb => ?_, hs.sublist (List.drop_sublist _ _)⟩
    exact (ha b (List.mem_of_mem_drop hb)).resolve_left (h2 b hb)
  · rcases List.mem_append.mp hb with hb | hb
    · rw [List.mem_singleton.mp hb]
      exact h1 a ha'
    · exact ltW_trans (h1 a ha') ((ha b (List.mem_of_mem_drop hb)).resolve_left (h2 b hb))
theorem ins_perm {xs : List (Bw × Nat)} {x : Bw × Nat} : (ins xs x).Perm (x :: xs) := by
  unfold ins
  generalize (xs.countP fun y => decide (ltW y.1 x.1)) = k
  rw [List.append_assoc, List.singleton_append]
  refine List.perm_middle.trans (.cons x ?_)
  rw [List.take_append_drop]
def WOk (b : Bw) : Prop := Sm 4000 b.p ∧ Sm 4000 b.u
/-- all, one after the other -/
def rank (n : Nat) (acc : List (Bw × Nat)) : List Bw → List (Bw × Nat)
  | [] => acc
  | b :: bs => rank (n + 1) (ins acc (b, n)) bs
theorem rank_len (bs : List Bw) : ∀ (n : Nat) (acc : List (Bw × Nat)), (rank n acc bs).length = acc.length + bs.length := by
  induction bs with
  | nil => intro n acc; rfl
  | cons b bs ih =>
    intro n acc
    show (rank (n + 1) (ins acc (b, n)) bs).length = _
    rw [ih, ins_perm.length_eq, List.length_cons, List.length_cons]
    omega
theorem rank_app : ∀ (bs cs : List Bw) (n : Nat) (acc : List (Bw × Nat)), rank n acc (bs ++ cs) = rank (n + bs.length) (rank n acc bs) cs
  | [], cs, n, acc => rfl
  | b :: bs, cs, n, acc => by
    show rank (n + 1) (ins acc (b, n)) (bs ++ cs) = rank (n + (bs.length + 1)) (rank (n + 1) (ins acc (b, n)) bs) cs
    rw [rank_app bs cs, show n + 1 + bs.length = n + (bs.length + 1) by omega]
theorem rank_perm : ∀ (bs : List Bw) (n : Nat) (acc : List (Bw × Nat)), (rank n acc bs).Perm (bs.zipIdx n ++ acc)
  | [], n, acc => List.Perm.refl _
  | b :: bs, n, acc => by
    show (rank (n + 1) (ins acc (b, n)) bs).Perm _
    refine (rank_perm bs (n + 1) _).trans ?_
    rw [List.zipIdx_cons, List.cons_append]
    refine ((List.Perm.append_left _ ins_perm)).trans ?_
    exact List.perm_middle
theorem rank_mem {bs : List Bw} {x : Bw × Nat} (h : x ∈ rank 0 [] bs) : x.1 ∈ bs ∧ bs[x.2]? = some x.1 := by
  have := (rank_perm bs 0 []).mem_iff.mp h
  rw [List.append_nil] at this
  have e := List.mem_zipIdx_iff_getElem?.mp this
  exact ⟨List.mem_of_getElem? e, e⟩
/-- as long as all are apart, what is ranked is sorted -/
theorem rank_srt {bs : List Bw} (h : bs.Pairwise fun a b => ltW a b ∨ ltW b a) : ∀ j, j ≤ bs.length → Srt (rank 0 [] (bs.take j))
  | 0, _ => by
    rw [List.take_zero]
    exact List.Pairwise.nil
  | j + 1, hj => by
    have hlt : j < bs.length := by omega
    have ex : bs[j]? = some bs[j] := List.getElem?_eq_getElem hlt
    rw [List.take_add_one, ex]
    show Srt (rank 0 [] (bs.take j ++ [bs[j]]))
    rw [rank_app]
    refine ins_srt (rank_srt h j (by omega)) ?_
    intro x hx
    obtain ⟨_, e⟩ := rank_mem hx
    have hl := (List.getElem?_eq_some_iff.mp e).1
    rw [List.length_take] at hl
    rw [List.getElem?_take_of_lt (by omega)] at e
    obtain ⟨h1, e1⟩ := List.getElem?_eq_some_iff.mp e
    have := List.pairwise_iff_getElem.mp h x.2 j h1 hlt (by omega)
    rw [e1] at this
    exact this
theorem rank_apart {bs : List Bw} (h : bs.Pairwise fun a b => ltW a b ∨ ltW b a) {j : Nat} {b : Bw} (hb : bs[j]? = some b) : Apart (rank 0 [] (bs.take j)) b := by
  intro x hx
  obtain ⟨_, e⟩ := rank_mem hx
  have hl := (List.getElem?_eq_some_iff.mp e).1
  rw [List.length_take] at hl
  rw [List.getElem?_take_of_lt (by omega)] at e
  obtain ⟨h1, e1⟩ := List.getElem?_eq_some_iff.mp e
  obtain ⟨h2, e2⟩ := List.getElem?_eq_some_iff.mp hb
  have := List.pairwise_iff_getElem.mp h x.2 j h1 h2 (by omega)
  rw [e1, e2] at this
  exact this
theorem rank_step {bs : List Bw} {j : Nat} {b : Bw} (hb : bs[j]? = some b) : rank 0 [] (bs.take (j + 1)) = ins (rank 0 [] (bs.take j)) (b, j) := by
  rw [List.take_add_one, hb]
  show rank 0 [] (bs.take j ++ [b]) = _
  rw [rank_app]
  have hl := (List.getElem?_eq_some_iff.mp hb).1
  rw [List.length_take, Nat.min_eq_left (by omega), Nat.zero_add]
  rfl
end VS
set_option Elab.async false
set_option linter.all false
set_option maxRecDepth 100000
set_option maxHeartbeats 4000000
/-! VM11: worlds in general behind likes: passed, crossings, wearer. Own work. -/
namespace VS
open PySem PySem.Spec PyProof.Rows
open L2 (V Hp Cx WX)
def odd (bs : List Bw) : Option Nat := bs.findIdx? fun b => b.m != (bs.headD ⟨0, 0, 0⟩).m
/-! ### pairs -/
def w0 : Bw := ⟨0, 0, 0⟩
def nth (bs : List Bw) (i : Nat) : Bw := bs.getD i w0
def row (bs : List Bw) (i j : Nat) : List (Bw × Bw) := (List.range j).map fun k => (nth bs k, nth bs i)
/-! ### what is sorted is told -/
theorem rank_all {bs : List Bw} (h : bs.Pairwise fun a b => ltW a b ∨ ltW b a) : Srt (rank 0 [] bs) := by
  have := rank_srt h bs.length (Nat.le_refl _)
  rwa [List.take_length] at this
theorem srt_uniq {l1 l2 : List Bw} (h1 : l1.Pairwise ltW) (h2 : l2.Pairwise ltW) (hp : l1.Perm l2) : l1 = l2 :=
  List.Perm.eq_of_pairwise (fun a b _ _ x y => (ltW_asym x y).elim) h1 h2 hp
theorem wt_odd {bs : List Bw} {m : Int} (h : ∀ b ∈ bs, b.m = m) : odd bs = none := wt_none h
end VS
set_option Elab.async false
set_option linter.all false
set_option maxRecDepth 100000
set_option maxHeartbeats 4000000
/-! VM70: a room: folding. Own work. -/
namespace VS
open PySem PySem.Spec PyProof.Rows
open L2 (V Hp Cx WX)
/-- the whole number below -/
def fl (q : Rat) : Int := q.num / (q.den : Int)
theorem fl_b (q : Rat) : (fl q : Rat) ≤ q ∧ q < (fl q : Rat) + 1 := by
  have d0 : (0 : Int) < (q.den : Int) := den_pos q
  have dq : (0 : Rat) < ((q.den : Int) : Rat) := by exact_mod_cast d0
  have e := num_eq q
  have h1 : fl q * (q.den : Int) ≤ q.num := Int.ediv_mul_le _ (by omega)
  have h2 : q.num < (fl q + 1) * (q.den : Int) := Int.lt_ediv_add_one_mul_self _ d0
  have h1' : (fl q : Rat) * ((q.den : Int) : Rat) ≤ q * ((q.den : Int) : Rat) := by rw [← e]; exact_mod_cast h1
  have h2' : q * ((q.den : Int) : Rat) < ((fl q : Rat) + 1) * ((q.den : Int) : Rat) := by rw [← e]; exact_mod_cast h2
  constructor
  · refine Rat.not_lt.mp fun z => ?_
    have := Rat.mul_lt_mul_of_pos_right z dq
    grind
  · refine Rat.not_le.mp fun z => ?_
    have := Rat.mul_le_mul_of_nonneg_right z (Rat.le_of_lt dq)
    grind
/-- a place led back -/
def rst (x T : Rat) : Rat := x - (fl (x / T) : Rat) * T
theorem rst_b {x T : Rat} (T0 : 0 < T) : 0 ≤ rst x T ∧ rst x T < T := by
  obtain ⟨h1, h2⟩ := fl_b (x / T)
  have ne : T ≠ 0 := by grind
  have e := Rat.div_mul_cancel (a := x) ne
  have m1 := Rat.mul_le_mul_of_nonneg_right h1 (Rat.le_of_lt T0)
  have m2 := Rat.mul_lt_mul_of_pos_right h2 T0
  rw [e] at m1 m2
  unfold rst
  constructor <;> grind
def gr (u : Rat) : Rat := if u < 0 then -u else u
def foldW (L : Rat) (b : Bw) : Bw :=
  if rst b.p (L + L) = 0 then ⟨rst b.p (L + L), gr b.u, b.m⟩
  else if rst b.p (L + L) < L then ⟨rst b.p (L + L), b.u, b.m⟩
  else if rst b.p (L + L) = L then ⟨rst b.p (L + L), -gr b.u, b.m⟩
  else ⟨L + L - rst b.p (L + L), -b.u, b.m⟩
abbrev fw (L t : Rat) (b : Bw) : Bw := foldW L (mvW t b)
theorem fold_cases {L : Rat} (L0 : 0 < L) (b : Bw) : 0 ≤ rst b.p (L + L) ∧ rst b.p (L + L) < L + L ∧
    (((foldW L b).p = rst b.p (L + L) ∧ (foldW L b).u = b.u ∧ 0 < rst b.p (L + L) ∧ rst b.p (L + L) < L)
    ∨ ((foldW L b).p = 0 ∧ rst b.p (L + L) = 0 ∧ (foldW L b).u = gr b.u)
    ∨ ((foldW L b).p = L ∧ rst b.p (L + L) = L ∧ (foldW L b).u = -gr b.u)
    ∨ ((foldW L b).p = L + L - rst b.p (L + L) ∧ (foldW L b).u = -b.u ∧ L < rst b.p (L + L))) := by
  obtain ⟨h1, h2⟩ := rst_b (x := b.p) (T := L + L) (by grind)
  refine ⟨h1, h2, ?_⟩
  unfold foldW
  by_cases c1 : rst b.p (L + L) = 0
  · rw [if_pos c1]; exact .inr (.inl ⟨c1, c1, rfl⟩)
  · rw [if_neg c1]
    by_cases c2 : rst b.p (L + L) < L
    · rw [if_pos c2]; exact .inl ⟨rfl, rfl, by grind, c2⟩
    · rw [if_neg c2]
      by_cases c3 : rst b.p (L + L) = L
      · rw [if_pos c3]; exact .inr (.inr (.inl ⟨c3, c3, rfl⟩))
      · rw [if_neg c3]; exact .inr (.inr (.inr ⟨rfl, rfl, by grind⟩))
theorem fold_m (L : Rat) (b : Bw) : (foldW L b).m = b.m := by
  unfold foldW
  split
  · rfl
  · split
    · rfl
    · split <;> rfl
theorem no_mult {T d : Rat} {m : Int} (T0 : 0 < T) (h : d = (m : Rat) * T) (d1 : -T < d) (d2 : d < T) : d = 0 := by
  have : m = 0 := by
    refine Classical.byContradiction fun z => ?_
    rcases Int.lt_or_lt_of_ne z with z | z
    · have h0 : (m : Rat) ≤ ((-1 : Int) : Rat) := by exact_mod_cast (show m ≤ -1 by omega)
      have e1 : ((-1 : Int) : Rat) = -1 := rfl
      have : (m : Rat) ≤ -1 := by rw [← e1]; exact h0
      have := Rat.mul_le_mul_of_nonneg_right this (Rat.le_of_lt T0)
      grind
    · have : (1 : Rat) ≤ (m : Rat) := by exact_mod_cast (show 1 ≤ m by omega)
      have := Rat.mul_le_mul_of_nonneg_right this (Rat.le_of_lt T0)
      grind
  rw [h, this]
  grind
theorem gr_eq {u v : Rat} (h : gr u = gr v) : u = v ∨ u = -v := by
  unfold gr at h
  split at h <;> split at h <;> grind
/-- two within are never alike -/
theorem fold_apart {L t : Rat} (L0 : 0 < L) {a b : Bw} (ha : 0 < a.p ∧ a.p < L) (hb : 0 < b.p ∧ b.p < L) (ne : a.p ≠ b.p) : ltW (fw L t a) (fw L t b) ∨ ltW (fw L t b) (fw L t a) := by
  refine Classical.byContradiction fun z => ?_
  have hp : (fw L t a).p = (fw L t b).p := by unfold ltW at z; grind
  have hu : (fw L t a).u = (fw L t b).u := by unfold ltW at z; grind
  clear z
  obtain ⟨a1, a2, ac⟩ := fold_cases L0 (mvW t a)
  obtain ⟨b1, b2, bc⟩ := fold_cases L0 (mvW t b)
  have ea : rst (mvW t a).p (L + L) = a.p + a.u * t - (fl ((mvW t a).p / (L + L)) : Rat) * (L + L) := rfl
  have eb : rst (mvW t b).p (L + L) = b.p + b.u * t - (fl ((mvW t b).p / (L + L)) : Rat) * (L + L) := rfl
  generalize fl ((mvW t a).p / (L + L)) = ka at ea
  generalize fl ((mvW t b).p / (L + L)) = kb at eb
  have T0 : 0 < L + L := by grind
  have same : (mvW t a).u = (mvW t b).u → rst (mvW t a).p (L + L) = rst (mvW t b).p (L + L) → False := fun h1 h2 => by
    have h1 : a.u = b.u := h1
    rw [ea, eb, h1] at h2
    have := no_mult (m := ka - kb) (d := a.p - b.p) T0 (by rw [Rat.intCast_sub]; grind) (by grind) (by grind)
    grind
  have opp : ∀ n : Int, (mvW t a).u = -(mvW t b).u → rst (mvW t a).p (L + L) + rst (mvW t b).p (L + L) = (n : Rat) * (L + L) → False := fun n h1 h2 => by
    have h1 : a.u = -b.u := h1
    rw [ea, eb, h1] at h2
    have := no_mult (m := ka + kb + n) (d := a.p + b.p) T0 (by rw [Rat.intCast_add, Rat.intCast_add]; grind) (by grind) (by grind)
    grind
  have gg : gr (mvW t a).u = gr (mvW t b).u → rst (mvW t a).p (L + L) = rst (mvW t b).p (L + L) → (rst (mvW t a).p (L + L) = 0 ∨ rst (mvW t a).p (L + L) = L) → False := fun h1 h2 h3 => by
    rcases gr_eq h1 with y | y
    · exact same y h2
    · rcases h3 with h3 | h3
      · exact opp 0 y (by rw [← h2, h3]; show (0 : Rat) + 0 = ((0 : Int) : Rat) * _; grind)
      · exact opp 1 y (by rw [← h2, h3]; show L + L = ((1 : Int) : Rat) * _; grind)
  generalize rst (mvW t a).p (L + L) = ya at *
  generalize rst (mvW t b).p (L + L) = yb at *
  rcases ac with ⟨p1, p2, p3, p4⟩ | ⟨p1, p2, p3⟩ | ⟨p1, p2, p3⟩ | ⟨p1, p2, p3⟩ <;> rcases bc with ⟨q1, q2, q3, q4⟩ | ⟨q1, q2, q3⟩ | ⟨q1, q2, q3⟩ | ⟨q1, q2, q3⟩
  · exact same (by rw [← p2, ← q2]; exact hu) (by rw [← p1, ← q1]; exact hp)
  · grind
  · grind
  · exact opp 1 (by rw [← p2]; have := hu; rw [q2] at this; exact this) (by have h := hp; rw [p1, q1] at h; show ya + yb = ((1 : Int) : Rat) * _; grind)
  · grind
  · exact gg (by rw [← p3, ← q3]; exact hu) (by rw [p2, q2]) (.inl p2)
  · grind
  · grind
  · grind
  · grind
  · exact gg (by have h := hu; rw [p3, q3] at h; grind) (by rw [p2, q2]) (.inr p2)
  · grind
  · exact opp 1 (by have h := hu; rw [p2, q2] at h; grind) (by have h := hp; rw [p1, q1] at h; show ya + yb = ((1 : Int) : Rat) * _; grind)
  · grind
  · grind
  · exact same (by have h := hu; rw [p2, q2] at h; grind) (by have h := hp; rw [p1, q1] at h; grind)
theorem fl_si {n : Nat} {q : Rat} (h : Sm n q) : Si n (fl q) := by
  have := Int.natAbs_ediv_le_natAbs q.num (q.den : Int)
  exact Si.of_le h.1 this
theorem rst_sm {n k : Nat} {x T : Rat} (hx : Sm n x) (hT : Sm k T) (T0 : 0 < T) : Sm (2 * n + 2 * k + 2) (rst x T) := by
  have h1 := fl_si (hx.quo hT (by grind))
  exact (hx.sub ((Sm.int h1).mul hT)).mono (by omega)
theorem gr_sm {n : Nat} {u : Rat} (h : Sm n u) : Sm n (gr u) := by
  unfold gr
  split
  · exact ⟨by rw [Rat.neg_num]; exact h.1.neg, by rw [Rat.neg_den]; exact h.2⟩
  · exact h
def out (bs : List Bw) (L : Rat) : Option Nat := bs.findIdx? fun b => !(decide (0 < b.p) && decide (b.p < L))
def F_need_within : FS := fun ss K E => ∃ (st : Bool) (bs : List Bw) (L : Rat), ss = [.v (.lst st (bs.map wD)), .v (frD L)] ∧ (bs.length ≤ 1000 ∧ Sm 4000 L ∧ ∀ b ∈ bs, Sm 4000 b.p) ∧ match out bs L with
  | none => K (.v .non) []
  | some k => E (noWorld (k : Nat)) []
theorem m_need_within : MonoF F_need_within := fun ss K K' E E' hk he ⟨st, bs, L, h1, h2, h3⟩ => ⟨st, bs, L, h1, h2, by
  split at h3
  · exact hk _ _ h3
  · exact he _ _ h3⟩
def F_rest_of : FS := fun ss K _ => ∃ x T : Rat, ss = [.v (frD x), .v (frD T)] ∧ (0 < T ∧ Sm 1500 x ∧ Sm 200 T) ∧ K (.v (frD (rst x T))) []
theorem m_rest_of : MonoF F_rest_of := fun ss K K' E E' hk he ⟨x, T, h1, h2, h3⟩ => ⟨x, T, h1, h2, hk _ _ h3⟩
def F_greatness : FS := fun ss K _ => ∃ u : Rat, ss = [.v (frD u)] ∧ Sm 4000 u ∧ K (.v (frD (gr u))) []
theorem m_greatness : MonoF F_greatness := fun ss K K' E E' hk he ⟨u, h1, h2, h3⟩ => ⟨u, h1, h2, hk _ _ h3⟩
def rmL (L t : Rat) (bs : List Bw) : List Bw := (rank 0 [] (bs.map (fw L t))).map (·.1)
structure RmW (bs : List Bw) (L t : Rat) : Prop where
  ne : 1 ≤ bs.length
  le : bs.length ≤ 1000
  sz : ∀ b ∈ bs, Sm 90 b.p ∧ Sm 90 b.u
  sl : Sm 90 L
  st : Sm 700 t
  l0 : 0 < L
  inc : bs.Pairwise fun a b => a.p < b.p
def sf_need_within : SS := (forS (itE (consA true (vE 0) nilA)) (gT 2 (gCons (gN 2 true) (gCons (gN 3 true) gNil))) (ifS (orT (notT (bT (callP F_under [] (consA true (cE gv_NOUGHT) (consA true (bin true (vE 3) (cE (.int 0)) ixR) nilA))))) (notT (bT (callP F_under [] (consA true (bin true (vE 3) (cE (.int 0)) ixR) (consA true (vE 1) nilA)))))) (raiseIS "NoWorld" ["at"] (consA true (vE 2) nilA)) nxS))
def sf_rest_of : SS := (seqS (setS 2 true (callP F_over [] (consA true (vE 0) (consA true (vE 1) nilA))))
  (retS (callP F_minus [] (consA true (vE 0) (consA true (callP F_times [] (consA true (callP F_fraction [] (consA true (bin true (bin true (vE 2) (cE (.int 0)) ixR) (bin true (vE 2) (cE (.int 1)) ixR) (intR DivOk fun i j => .int (i.fdiv j))) (consA true (cE (.int 1)) nilA))) (consA true (vE 1) nilA))) nilA)))))
def sf_greatness : SS := (seqS (ifS (bT (callP F_under [] (consA true (vE 0) (consA true (cE gv_NOUGHT) nilA)))) (retS (callP F_minus [] (consA true (cE gv_NOUGHT) (consA true (vE 0) nilA)))) nxS)
  (retS (vE 0)))
theorem to_need_within : ∀ ss K E, F_need_within ss K E → defF [false, false] 4 sf_need_within ss K E := fun ss K E h => by
  obtain ⟨st, bs, L, rfl, ⟨hl, sl, sp⟩, h⟩ := h
  have e01 : (0 : Rat) / 1 = 0 := by grind
  have z0 : Si 4000 (0 : Int) := by unfold Si; decide
  have z1 : Si 4000 (1 : Int) := by unfold Si; decide
  simp [sf_need_within, cE, vE, bE, rE, fE, mE, bin, nilA, consA, bT, andT, orT, notT, tupE, lstE, allV, allM, okB, intR, addR, asL, asT, asD, eqR, eqD_nn, eqD_bb, eqD_ii, eqD_ss, eqD_tt, eqD_ll, eqD_bi, eqD_ib, eqD_nt, eqD_tn, eqD_it, eqD_ti, eqD_ni, eqD_in, eqDs_nn, eqDs_cc, eqDs_nc, eqDs_cn, cmpD, cmpDs, depD, depDs, isNon, isNR, chainE, tvE, andV, orV, notV, ifE, slEV, ixR, callV, lenC, isiC, tyN, pick, retEV, callP, argD, argDs, seqS, bkS, ctS, exprS, retS, retNS, ifS, evSl, setS, SK.loop, gN, gNil, gCons, gT, asgS, parS, defF, defK, raiseS, absC, divmodC, mmC, stL, itL, itT, itR1, itR2, itE, shL, itZ, itV, forS, evD, methL, appL, clrL, popL, insL, trL, extL, setixS, argS, argSs, callI, callN, hereA, nextA, negE, itS, wipeR, compE, compD, yesT, seqD, listC, tupC, numd, zipd, nxS, frSl, retSl, retSls, retOk, retOks, tryAsS, tryOnlyS, lookB, kinE, xfE, lookF, frzE, isTR, isTB, allC, blsD, gU, raiseIS, at0, at1, at2, at3, lrE, sortC, intC, intsD, slE, intO, cutD, borS, borT, bkR, okRho, eqXR, slX, addT, repT, tryMixS, mixH, suK, suR, suL]
  refine loop_inv (fun j ρ => ∃ x2 x3, ρ = [.v (.lst st (bs.map wD)), .v (frD L), x2, x3] ∧ ∀ i, i < j → ∀ b, bs[i]? = some b → 0 < b.p ∧ b.p < L) ⟨_, _, rfl, fun i hi => absurd hi (by omega)⟩ ?_ ?_
  · rintro j e ρ K2 he ⟨x2, x3, rfl, hb⟩ next
    rw [numd_get, List.getElem?_map] at he
    obtain ⟨d, hd, rfl⟩ := Option.map_eq_some_iff.mp he
    obtain ⟨b, hbj, rfl⟩ := Option.map_eq_some_iff.mp hd
    have sb := sp b (List.mem_of_getElem? hbj)
    have lj := (List.getElem?_eq_some_iff.mp hbj).1
    simp [cE, vE, bE, rE, fE, mE, bin, nilA, consA, bT, andT, orT, notT, tupE, lstE, allV, allM, okB, intR, addR, asL, asT, asD, eqR, eqD_nn, eqD_bb, eqD_ii, eqD_ss, eqD_tt, eqD_ll, eqD_bi, eqD_ib, eqD_nt, eqD_tn, eqD_it, eqD_ti, eqD_ni, eqD_in, eqDs_nn, eqDs_cc, eqDs_nc, eqDs_cn, cmpD, cmpDs, depD, depDs, isNon, isNR, chainE, tvE, andV, orV, notV, ifE, slEV, ixR, callV, lenC, isiC, tyN, pick, retEV, callP, argD, argDs, seqS, bkS, ctS, exprS, retS, retNS, ifS, evSl, setS, SK.loop, gN, gNil, gCons, gT, asgS, parS, defF, defK, raiseS, absC, divmodC, mmC, stL, itL, itT, itR1, itR2, itE, shL, itZ, itV, forS, evD, methL, appL, clrL, popL, insL, trL, extL, setixS, argS, argSs, callI, callN, hereA, nextA, negE, itS, wipeR, compE, compD, yesT, seqD, listC, tupC, numd, zipd, nxS, frSl, retSl, retSls, retOk, retOks, tryAsS, tryOnlyS, lookB, kinE, xfE, lookF, frzE, isTR, isTB, allC, blsD, gU, raiseIS, at0, at1, at2, at3, lrE, sortC, intC, intsD, slE, intO, cutD, borS, borT, bkR, okRho, eqXR, slX, addT, repT, tryMixS, mixH, suK, suR, suL, wD, gv_NOUGHT, F_under, Rat.den_nz, nd, e01]
    refine ⟨⟨dpos _, by (repeat' with_reducible apply And.intro) <;> try first | assumption | exact Sm.n (by assumption) | exact Sm.d (by assumption) | exact Si.mono (by assumption) (by decide) | exact dpos _ | exact Rat.nz _ | exact Rat.den_nz _⟩, ?_⟩
    have stop : ¬ (0 < b.p ∧ b.p < L) → out bs L = some j := fun z => by
      unfold out
      refine List.findIdx?_eq_some_iff_getElem.mpr ⟨lj, ?_, fun i hi => ?_⟩
      · rw [(List.getElem?_eq_some_iff.mp hbj).2]
        by_cases w : 0 < b.p
        · have : ¬ b.p < L := fun y => z ⟨w, y⟩
          simp [w, this]
        · simp [w]
      · have := hb i hi bs[i] (List.getElem?_eq_getElem (by omega))
        simp [this.1, this.2]
    by_cases c1 : 0 < b.p
    · rw [if_pos c1]
      refine ⟨⟨dpos _, dpos _, by (repeat' with_reducible apply And.intro) <;> try first | assumption | exact Sm.n (by assumption) | exact Sm.d (by assumption) | exact Si.mono (by assumption) (by decide) | exact dpos _ | exact Rat.nz _ | exact Rat.den_nz _⟩, ?_⟩
      by_cases c2 : b.p < L
      · rw [if_pos c2]
        refine next _ ⟨_, _, rfl, fun i hi c hc => ?_⟩
        by_cases y : i = j
        · subst y
          rw [hbj] at hc
          cases hc
          exact ⟨c1, c2⟩
        · exact hb i (by omega) c hc
      · rw [if_neg c2]
        rw [stop fun y => c2 y.2] at h
        exact h
    · rw [if_neg c1]
      rw [stop fun y => c1 y.1] at h
      exact h
  · rintro ρ ⟨x2, x3, rfl, hb⟩
    have e : out bs L = none := by
      unfold out
      rw [List.findIdx?_eq_none_iff]
      intro b hm
      obtain ⟨i, hi⟩ := List.getElem?_of_mem hm
      have ll : (numd 0 (bs.map wD)).length = bs.length := (numd_len _ 0).trans (by simp)
      have := hb i (by rw [ll]; exact (List.getElem?_eq_some_iff.mp hi).1) b hi
      simp [this.1, this.2]
    rw [e] at h
    exact ⟨rfl, h⟩
theorem to_rest_of : ∀ ss K E, F_rest_of ss K E → defF [false, false] 3 sf_rest_of ss K E := fun ss K E h => by
  obtain ⟨x, T, rfl, ⟨T0, sx, sT⟩, h⟩ := h
  have ne : ¬ T = 0 := by grind
  have nn : ¬ T.num = 0 := fun z => ne (Rat.num_eq_zero.mp z)
  have sq := sx.quo sT ne
  have s1 := sx.mono (m := 4000) (by decide)
  have s2 := sT.mono (m := 4000) (by decide)
  have z1 : Si 8100 (1 : Int) := by unfold Si; decide
  have dv : DivOk (x / T).num ((x / T).den : Int) := divOk_of sq.2 (by decide) (den_ne _)
  have fe : (x / T).num.fdiv ((x / T).den : Int) = fl (x / T) := Int.fdiv_eq_ediv_of_nonneg _ (by have := den_pos (x / T); omega)
  have s3 := (Sm.int (fl_si sq)).mono (m := 4000) (by decide)
  have s4 := ((Sm.int (fl_si sq)).mul sT).mono (m := 4000) (by decide)
  have d1 : ∀ q : Rat, q / 1 = q := fun q => by grind
  simp [sf_rest_of, cE, vE, bE, rE, fE, mE, bin, nilA, consA, bT, andT, orT, notT, tupE, lstE, allV, allM, okB, intR, addR, asL, asT, asD, eqR, eqD_nn, eqD_bb, eqD_ii, eqD_ss, eqD_tt, eqD_ll, eqD_bi, eqD_ib, eqD_nt, eqD_tn, eqD_it, eqD_ti, eqD_ni, eqD_in, eqDs_nn, eqDs_cc, eqDs_nc, eqDs_cn, cmpD, cmpDs, depD, depDs, isNon, isNR, chainE, tvE, andV, orV, notV, ifE, slEV, ixR, callV, lenC, isiC, tyN, pick, retEV, callP, argD, argDs, seqS, bkS, ctS, exprS, retS, retNS, ifS, evSl, setS, SK.loop, gN, gNil, gCons, gT, asgS, parS, defF, defK, raiseS, absC, divmodC, mmC, stL, itL, itT, itR1, itR2, itE, shL, itZ, itV, forS, evD, methL, appL, clrL, popL, insL, trL, extL, setixS, argS, argSs, callI, callN, hereA, nextA, negE, itS, wipeR, compE, compD, yesT, seqD, listC, tupC, numd, zipd, nxS, frSl, retSl, retSls, retOk, retOks, tryAsS, tryOnlyS, lookB, kinE, xfE, lookF, frzE, isTR, isTB, allC, blsD, gU, raiseIS, at0, at1, at2, at3, lrE, sortC, intC, intsD, slE, intO, cutD, borS, borT, bkR, okRho, eqXR, slX, addT, repT, tryMixS, mixH, suK, suR, suL, F_over, F_minus, F_times, F_two, F_fraction, Rat.den_nz, nd, nn, ne, dv, fe, d1]
  refine ⟨by (repeat' with_reducible apply And.intro) <;> try first | assumption | exact Sm.n (by assumption) | exact Sm.d (by assumption) | exact Si.mono (by assumption) (by decide) | exact dpos _ | exact Rat.nz _ | exact Rat.den_nz _, z1, ⟨(fl_si sq).mono (by decide), by unfold Si; decide, s2.n, s2.d⟩, by (repeat' with_reducible apply And.intro) <;> try first | assumption | exact Sm.n (by assumption) | exact Sm.d (by assumption) | exact Si.mono (by assumption) (by decide) | exact dpos _ | exact Rat.nz _ | exact Rat.den_nz _, h⟩
theorem to_greatness : ∀ ss K E, F_greatness ss K E → defF [false] 1 sf_greatness ss K E := fun ss K E h => by
  obtain ⟨u, rfl, su, h⟩ := h
  have e01 : (0 : Rat) / 1 = 0 := by grind
  have z0 : Si 4000 (0 : Int) := by unfold Si; decide
  have z1 : Si 4000 (1 : Int) := by unfold Si; decide
  simp [sf_greatness, cE, vE, bE, rE, fE, mE, bin, nilA, consA, bT, andT, orT, notT, tupE, lstE, allV, allM, okB, intR, addR, asL, asT, asD, eqR, eqD_nn, eqD_bb, eqD_ii, eqD_ss, eqD_tt, eqD_ll, eqD_bi, eqD_ib, eqD_nt, eqD_tn, eqD_it, eqD_ti, eqD_ni, eqD_in, eqDs_nn, eqDs_cc, eqDs_nc, eqDs_cn, cmpD, cmpDs, depD, depDs, isNon, isNR, chainE, tvE, andV, orV, notV, ifE, slEV, ixR, callV, lenC, isiC, tyN, pick, retEV, callP, argD, argDs, seqS, bkS, ctS, exprS, retS, retNS, ifS, evSl, setS, SK.loop, gN, gNil, gCons, gT, asgS, parS, defF, defK, raiseS, absC, divmodC, mmC, stL, itL, itT, itR1, itR2, itE, shL, itZ, itV, forS, evD, methL, appL, clrL, popL, insL, trL, extL, setixS, argS, argSs, callI, callN, hereA, nextA, negE, itS, wipeR, compE, compD, yesT, seqD, listC, tupC, numd, zipd, nxS, frSl, retSl, retSls, retOk, retOks, tryAsS, tryOnlyS, lookB, kinE, xfE, lookF, frzE, isTR, isTB, allC, blsD, gU, raiseIS, at0, at1, at2, at3, lrE, sortC, intC, intsD, slE, intO, cutD, borS, borT, bkR, okRho, eqXR, slX, addT, repT, tryMixS, mixH, suK, suR, suL, gv_NOUGHT, F_under, F_minus, F_two, Rat.den_nz, nd, e01]
  refine ⟨⟨dpos _, by (repeat' with_reducible apply And.intro) <;> try first | assumption | exact Sm.n (by assumption) | exact Sm.d (by assumption) | exact Si.mono (by assumption) (by decide) | exact dpos _ | exact Rat.nz _ | exact Rat.den_nz _⟩, ?_⟩
  unfold gr at h
  by_cases c : u < 0
  · rw [if_pos c] at h ⊢
    have e : (0 : Rat) - u = -u := by grind
    rw [e]
    exact ⟨by (repeat' with_reducible apply And.intro) <;> try first | assumption | exact Sm.n (by assumption) | exact Sm.d (by assumption) | exact Si.mono (by assumption) (by decide) | exact dpos _ | exact Rat.nz _ | exact Rat.den_nz _, h⟩
  · rw [if_neg c] at h ⊢
    exact h
theorem fw_ok {bs : List Bw} {L t : Rat} (h : RmW bs L t) : ∀ b ∈ bs, Sm 900 (mvW t b).p ∧ Sm 900 (mvW t b).u ∧ WOk (fw L t b) := fun b hb => by
  obtain ⟨h1, h2⟩ := h.sz b hb
  have s1 : Sm 900 (mvW t b).p := (h1.add (h2.mul h.st)).mono (by decide)
  have s2 : Sm 900 (mvW t b).u := h2.mono (by decide)
  refine ⟨s1, s2, ?_⟩
  have sT := h.sl.add h.sl
  have sr := rst_sm s1 sT (by have := h.l0; grind)
  unfold fw foldW WOk
  split
  · exact ⟨sr.mono (by decide), (gr_sm s2).mono (by decide)⟩
  · split
    · exact ⟨sr.mono (by decide), s2.mono (by decide)⟩
    · split
      · exact ⟨sr.mono (by decide), ⟨by rw [Rat.neg_num]; exact ((gr_sm s2).1.neg).mono (by decide), by rw [Rat.neg_den]; exact ((gr_sm s2).2).mono (by decide)⟩⟩
      · exact ⟨(sT.sub sr).mono (by decide), ⟨by rw [Rat.neg_num]; exact (s2.1.neg).mono (by decide), by rw [Rat.neg_den]; exact (s2.2).mono (by decide)⟩⟩
theorem out_none {bs : List Bw} {L : Rat} (h : out bs L = none) : ∀ b ∈ bs, 0 < b.p ∧ b.p < L := fun b hb => by
  have := List.findIdx?_eq_none_iff.mp h b hb
  simpa using this
theorem fw_apart {bs : List Bw} {L t : Rat} (h : RmW bs L t) (ho : out bs L = none) : (bs.map (fw L t)).Pairwise fun a b => ltW a b ∨ ltW b a := by
  refine List.pairwise_map.mpr (h.inc.imp_of_mem fun {a b} ha hb lt => ?_)
  exact fold_apart h.l0 (out_none ho a ha) (out_none ho b hb) (by grind)
theorem comp_mem {α : Type} {own : List Nat} {g : GS} {t : BS} {f : ES} {ρ : Rho} (u v : α → D) : ∀ (xs : List α) (acc : List D) (K : List D → Prop), (∀ a ∈ xs, ∀ (acc ds : List D) (K : List D → Prop), compD own g t f ρ ds (acc ++ [v a]) K → compD own g t f ρ (u a :: ds) acc K) → K (acc ++ xs.map v) → compD own g t f ρ (xs.map u) acc K
  | [], acc, K, _, k => by simpa [compD] using k
  | d :: ds, acc, K, step, k => step d (by simp) acc _ K (comp_mem u v ds (acc ++ [v d]) K (fun a ha => step a (by simp [ha])) (by simpa using k))
end VS
set_option Elab.async false
set_option linter.all false
set_option maxRecDepth 100000
set_option maxHeartbeats 4000000
/-! VM157: a room: the round. Own work. -/
namespace VS
open PySem PySem.Spec PyProof.Rows
open L2 (V Hp Cx WX)
/-- where a body is on the way round -/
def phR (b : Bw) (L : Rat) : Rat := if b.u < 0 then L + L - b.p else b.p
def addP : List (Rat × List Rat) → Rat → Rat → List (Rat × List Rat)
  | [], s, x => [(s, [x])]
  | (t, xs) :: r, s, x => if t = s then (t, xs ++ [x]) :: r else (t, xs) :: addP r s x
def tabW (bs : List Bw) (L : Rat) : List (Rat × List Rat) := bs.foldl (fun t b => if b.u = 0 then t else addP t (gr b.u) (phR b L)) []
def keyQ (s : Rat) : List Int := [s.num, s.den]
def valQ (xs : List Rat) : Sl := .l (xs.map frD)
def tabS (t : List (Rat × List Rat)) : Sl := .dt (t.map fun x => keyQ x.1) (t.map fun x => valQ x.2)
def turnsQ (xs : List Rat) (T : Rat) (k : Int) : Bool := xs.all fun x => decide (rst (x + T / (k : Rat)) T ∈ xs)
def ptQ (xs : List Rat) (T : Rat) : Nat → Nat
  | 0 => 0
  | n + 1 => if turnsQ xs T ((n + 1 : Nat) : Int) then n + 1 else ptQ xs T n
def rbQ (xs : List Rat) (T s : Rat) : Rat := T / (s * (((ptQ xs T xs.length : Nat) : Int) : Rat))
def lcI (a b : Rat) : Int := a.num * b.num / (Int.gcd a.num b.num : Int)
def lcQ (a b : Rat) : Rat := ((lcI a b : Int) : Rat) / ((Int.gcd (a.den : Int) (b.den : Int) : Int) : Rat)
def rdF (T : Rat) (o : Option Rat) (x : Rat × List Rat) : Option Rat := some (match o with
  | none => rbQ x.2 T x.1
  | some q => lcQ q (rbQ x.2 T x.1))
def rdW (t : List (Rat × List Rat)) (T : Rat) : Option Rat := t.foldl (rdF T) none
def rdD : Option Rat → D
  | none => .non
  | some q => frD q
theorem keyQ_inj {a b : Rat} : keyQ a = keyQ b ↔ a = b := by
  unfold keyQ
  constructor
  · intro h
    simp only [List.cons.injEq, and_true] at h
    exact rat_eq.mp h
  · intro h; rw [h]
theorem keyT_fr (s : Rat) : keyT (frD s) = some (keyQ s) := rfl
theorem putD_tab (s x : Rat) : ∀ t : List (Rat × List Rat), ∃ ks ss j ds, putD (t.map fun x => keyQ x.1) (t.map fun x => valQ x.2) (keyQ s) = (ks, ss, j) ∧ ss[j]? = some (.l ds) ∧ ds.length ≤ (t.map fun x => x.2.length).sum ∧ ks = (addP t s x).map (fun x => keyQ x.1) ∧ ss.set j (.l (ds ++ [frD x])) = (addP t s x).map fun x => valQ x.2
  | [] => ⟨[keyQ s], [.l []], 0, [], rfl, rfl, Nat.zero_le _, rfl, rfl⟩
  | (t0, xs) :: r => by
    obtain ⟨ks, ss, j, ds, h1, h2, h3, h4, h5⟩ := putD_tab s x r
    by_cases c : t0 = s
    · refine ⟨keyQ t0 :: r.map (fun x => keyQ x.1), valQ xs :: r.map (fun x => valQ x.2), 0, xs.map frD, ?_, rfl, by simp, ?_, ?_⟩
      · simp [putD, posK, c]
      · simp [addP, c]
      · simp [addP, c, valQ]
    · have cn : ¬ keyQ t0 = keyQ s := fun z => c (keyQ_inj.mp z)
      refine ⟨keyQ t0 :: ks, valQ xs :: ss, j + 1, ds, ?_, by simpa using h2, by simp; omega, ?_, ?_⟩
      · unfold putD at h1 ⊢
        simp only [List.map_cons, posK, if_neg cn]
        cases e : posK (r.map fun x => keyQ x.1) (keyQ s) with
        | none =>
          rw [e] at h1
          simp only [Prod.mk.injEq] at h1
          obtain ⟨g1, g2, g3⟩ := h1
          simp [← g1, ← g2, ← g3]
        | some j' =>
          rw [e] at h1
          simp only [Prod.mk.injEq] at h1
          obtain ⟨g1, g2, g3⟩ := h1
          simp [← g1, ← g2, ← g3]
      · simp [addP, c, h4]
      · simp [addP, c, h5]
theorem frSls_tab : ∀ t : List (Rat × List Rat), frSls (t.map fun x => valQ x.2) = some (t.map fun x => .lst true (x.2.map frD))
  | [] => rfl
  | x :: t => by
    rw [List.map_cons, frSls, frSls_tab t] <;> rfl
theorem zip_tab : ∀ t : List (Rat × List Rat), zipd ((t.map fun x => keyQ x.1).map keyD) (t.map fun x => .lst true (x.2.map frD)) = t.map fun x => D.tup [frD x.1, .lst true (x.2.map frD)]
  | [] => rfl
  | x :: t => by
    rw [List.map_cons, List.map_cons, List.map_cons, List.map_cons, zipd, zip_tab t] <;> rfl
/-! the promises -/
def F_phase_of : FS := fun ss K _ => ∃ (b : Bw) (L : Rat), ss = [.v (wD b), .v (frD L)] ∧ (Sm 1000 b.p ∧ Sm 1000 b.u ∧ Sm 1000 L) ∧ K (.v (frD (phR b L))) []
theorem m_phase_of : MonoF F_phase_of := fun ss K K' E E' hk he ⟨b, L, h1, h2, h3⟩ => ⟨b, L, h1, h2, hk _ _ h3⟩
structure RoS (bs : List Bw) (L : Rat) : Prop where
  le : bs.length ≤ 12
  sz : ∀ b ∈ bs, Sm 90 b.p ∧ Sm 90 b.u
  sl : Sm 90 L
def F_phases_by_speed : FS := fun ss K _ => ∃ (st : Bool) (bs : List Bw) (L : Rat), ss = [.v (.lst st (bs.map wD)), .v (frD L)] ∧ RoS bs L ∧ K (.m (tabS (tabW bs L))) []
theorem m_phases_by_speed : MonoF F_phases_by_speed := fun ss K K' E E' hk he ⟨st, bs, L, h1, h2, h3⟩ => ⟨st, bs, L, h1, h2, hk _ _ h3⟩
structure PhS (xs : List Rat) (T : Rat) : Prop where
  le : xs.length ≤ 12
  sz : ∀ x ∈ xs, Sm 300 x
  st : Sm 190 T
  t0 : 0 < T
def F_turns_to_itself : FS := fun ss K _ => ∃ (st : Bool) (xs : List Rat) (T : Rat) (k : Int), ss = [.v (.lst st (xs.map frD)), .v (frD T), .v (.int k)] ∧ (PhS xs T ∧ 1 ≤ k ∧ k ≤ 12) ∧ K (.v (.bl (turnsQ xs T k))) []
theorem m_turns_to_itself : MonoF F_turns_to_itself := fun ss K K' E E' hk he ⟨st, xs, T, k, h1, h2, h3⟩ => ⟨st, xs, T, k, h1, h2, hk _ _ h3⟩
def F_round_by : FS := fun ss K _ => ∃ (st : Bool) (xs : List Rat) (T s : Rat), ss = [.v (.lst st (xs.map frD)), .v (frD T), .v (frD s)] ∧ (PhS xs T ∧ 1 ≤ xs.length ∧ (∀ x ∈ xs, 0 ≤ x ∧ x < T) ∧ Sm 90 s ∧ 0 < s) ∧ K (.v (frD (rbQ xs T s))) []
theorem m_round_by : MonoF F_round_by := fun ss K K' E E' hk he ⟨st, xs, T, s, h1, h2, h3⟩ => ⟨st, xs, T, s, h1, h2, hk _ _ h3⟩
def F_common_part : FS := fun ss K _ => ∃ a b : Int, ss = [.v (.int a), .v (.int b)] ∧ (0 ≤ a ∧ 0 ≤ b ∧ Si 4000 a ∧ Si 4000 b) ∧ K (.v (.int (Int.gcd a b : Int))) []
theorem m_common_part : MonoF F_common_part := fun ss K K' E E' hk he ⟨a, b, h1, h2, h3⟩ => ⟨a, b, h1, h2, hk _ _ h3⟩
def F_least_common : FS := fun ss K _ => ∃ a b : Rat, ss = [.v (frD a), .v (frD b)] ∧ (0 < a ∧ 0 < b ∧ Sm 3500 a ∧ Sm 300 b) ∧ K (.v (frD (lcQ a b))) []
theorem m_least_common : MonoF F_least_common := fun ss K K' E E' hk he ⟨a, b, h1, h2, h3⟩ => ⟨a, b, h1, h2, hk _ _ h3⟩
def F_round_of : FS := fun ss K E => ∃ (st : Bool) (bs : List Bw) (L : Rat), ss = [.v (.lst st (bs.map wD)), .v (frD L)] ∧ RoS bs L ∧ match odd bs with
  | some k => E (noWorld (k : Nat)) []
  | none => match out bs L with
    | some k => E (noWorld (k : Nat)) []
    | none => K (.v (rdD (rdW (tabW bs L) (L + L)))) []
theorem m_round_of : MonoF F_round_of := fun ss K K' E E' hk he ⟨st, bs, L, h1, h2, h3⟩ => ⟨st, bs, L, h1, h2, by
  split at h3
  · exact he _ _ h3
  · split at h3
    · exact he _ _ h3
    · exact hk _ _ h3⟩
def sf_phase_of : SS := (seqS (ifS (bT (callP F_under [] (consA true (bin true (vE 0) (cE (.int 1)) ixR) (consA true (cE gv_NOUGHT) nilA)))) (retS (callP F_minus [] (consA true (callP F_plus [] (consA true (vE 1) (consA true (vE 1) nilA))) (consA true (bin true (vE 0) (cE (.int 0)) ixR) nilA)))) nxS)
  (retS (bin true (vE 0) (cE (.int 0)) ixR)))
def sf_phases_by_speed : SS := (seqS (setS 2 false dnE)
  (seqS (forS (itS (vE 0)) (gN 3 true) (ifS (bT (bin true (bin true (vE 3) (cE (.int 1)) ixR) (cE gv_NOUGHT) (eqR true))) (exprS (sdE 2 (callP F_greatness [] (consA true (bin true (vE 3) (cE (.int 1)) ixR) nilA)) (callP F_phase_of [] (consA true (vE 3) (consA true (vE 1) nilA))))) nxS))
  (retS (mE 2))))
def sf_turns_to_itself : SS := (seqS (setS 3 true (callP F_over [] (consA true (vE 1) (consA true (callP F_fraction [] (consA true (vE 2) (consA true (cE (.int 1)) nilA))) nilA))))
  (seqS (forS (itS (vE 0)) (gN 4 true) (ifS (bT (bin true (callP F_rest_of [] (consA true (callP F_plus [] (consA true (vE 4) (consA true (vE 3) nilA))) (consA true (vE 1) nilA))) (vE 0) (inR true))) (retS (cE (.bl false))) nxS))
  (retS (cE (.bl true)))))
def sf_round_by : SS := (seqS (setS 3 true (callV lenC (consA true (vE 0) nilA)))
  (seqS (whileS (notT (bT (callP F_turns_to_itself [] (consA true (vE 0) (consA true (vE 1) (consA true (vE 3) nilA)))))) (setS 3 true (bin true (vE 3) (cE (.int 1)) (intR (fun _ _ => True) fun i j => .int (i - j)))))
  (retS (callP F_over [] (consA true (vE 1) (consA true (callP F_times [] (consA true (vE 2) (consA true (callP F_fraction [] (consA true (vE 3) (consA true (cE (.int 1)) nilA))) nilA))) nilA))))))
def sf_common_part : SS := (seqS (whileS (bT (bin true (vE 1) (cE (.int 0)) gtR)) (parS 0 1 (consA true (vE 1) (consA true (bin true (vE 0) (bin true (bin true (vE 0) (vE 1) (intR DivOk fun i j => .int (i.fdiv j))) (vE 1) (intR MulOk fun i j => .int (i * j))) (intR (fun _ _ => True) fun i j => .int (i - j))) nilA))))
  (retS (vE 0)))
def sf_least_common : SS := (seqS (setS 2 true (bin true (bin true (bin true (vE 0) (cE (.int 0)) ixR) (bin true (vE 1) (cE (.int 0)) ixR) (intR MulOk fun i j => .int (i * j))) (callP F_common_part [] (consA true (bin true (vE 0) (cE (.int 0)) ixR) (consA true (bin true (vE 1) (cE (.int 0)) ixR) nilA))) (intR DivOk fun i j => .int (i.fdiv j))))
  (retS (callP F_fraction [] (consA true (vE 2) (consA true (callP F_common_part [] (consA true (bin true (vE 0) (cE (.int 1)) ixR) (consA true (bin true (vE 1) (cE (.int 1)) ixR) nilA))) nilA)))))
def sf_round_of : SS := (seqS (exprS (callP F_need_likes [] (consA true (vE 0) nilA)))
  (seqS (exprS (callP F_need_within [] (consA true (vE 0) (consA true (vE 1) nilA))))
  (seqS (setS 2 true (callP F_plus [] (consA true (vE 1) (consA true (vE 1) nilA))))
  (seqS (setS 3 true (cE .non))
  (seqS (forS (itDt (callP F_phases_by_speed [] (consA true (vE 0) (consA true (vE 1) nilA)))) (gT 2 (gCons (gN 4 true) (gCons (gN 5 true) gNil))) (seqS (setS 6 true (callP F_round_by [] (consA true (vE 5) (consA true (vE 2) (consA true (vE 4) nilA)))))
  (ifS (bT (bin true (vE 3) (cE .non) (isNR false))) (setS 3 true (vE 6)) (setS 3 true (callP F_least_common [] (consA true (vE 3) (consA true (vE 6) nilA)))))))
  (retS (vE 3)))))))
theorem to_phase_of : ∀ ss K E, F_phase_of ss K E → defF [false, false] 2 sf_phase_of ss K E := fun ss K E h => by
  obtain ⟨b, L, rfl, ⟨sp, su, sl⟩, h⟩ := h
  have e01 : (0 : Rat) / 1 = 0 := by grind
  have z0 : Si 4000 (0 : Int) := by unfold Si; decide
  have z1 : Si 4000 (1 : Int) := by unfold Si; decide
  have sT := sl.add sl
  simp [sf_phase_of, cE, vE, bE, rE, fE, mE, bin, nilA, consA, bT, andT, orT, notT, tupE, lstE, allV, allM, okB, intR, addR, asL, asT, asD, eqR, eqD_nn, eqD_bb, eqD_ii, eqD_ss, eqD_tt, eqD_ll, eqD_bi, eqD_ib, eqD_nt, eqD_tn, eqD_it, eqD_ti, eqD_ni, eqD_in, eqDs_nn, eqDs_cc, eqDs_nc, eqDs_cn, cmpD, cmpDs, depD, depDs, isNon, isNR, chainE, tvE, andV, orV, notV, ifE, slEV, ixR, callV, lenC, isiC, tyN, pick, retEV, callP, argD, argDs, seqS, bkS, ctS, exprS, retS, retNS, ifS, evSl, setS, SK.loop, gN, gNil, gCons, gT, asgS, parS, defF, defK, raiseS, absC, divmodC, mmC, stL, itL, itT, itR1, itR2, itE, shL, itZ, itV, forS, evD, methL, appL, clrL, popL, insL, trL, extL, setixS, argS, argSs, callI, callN, hereA, nextA, negE, itS, wipeR, compE, compD, yesT, seqD, listC, tupC, numd, zipd, nxS, frSl, retSl, retSls, retOk, retOks, tryAsS, tryOnlyS, lookB, kinE, xfE, lookF, frzE, isTR, isTB, allC, blsD, gU, raiseIS, at0, at1, at2, at3, lrE, sortC, intC, intsD, slE, intO, cutD, borS, borT, bkR, okRho, eqXR, slX, addT, repT, inR, cmpO, heldR, appT, lrE, sortC, intC, intsD, slE, intO, cutD, eqXR, slX, addT, repT, compX, compDx, neYR, lrevE, tryMixS, mixH, suK, suR, suL, wD, gv_NOUGHT, F_under, F_minus, F_plus, F_two, Rat.den_nz, nd, e01]
  refine ⟨⟨dpos _, by (repeat' with_reducible apply And.intro) <;> try first | assumption | exact Sm.n (by assumption) | exact Sm.d (by assumption) | exact Si.mono (by assumption) (by decide) | exact dpos _ | exact Rat.nz _ | exact Rat.den_nz _⟩, ?_⟩
  unfold phR at h
  by_cases c : b.u < 0
  · rw [if_pos c] at h ⊢
    exact ⟨by (repeat' with_reducible apply And.intro) <;> try first | assumption | exact Sm.n (by assumption) | exact Sm.d (by assumption) | exact Si.mono (by assumption) (by decide) | exact dpos _ | exact Rat.nz _ | exact Rat.den_nz _, by (repeat' with_reducible apply And.intro) <;> try first | assumption | exact Sm.n (by assumption) | exact Sm.d (by assumption) | exact Si.mono (by assumption) (by decide) | exact dpos _ | exact Rat.nz _ | exact Rat.den_nz _, h⟩
  · rw [if_neg c] at h ⊢
    exact h
theorem addP_sum (s x : Rat) : ∀ t : List (Rat × List Rat), ((addP t s x).map fun x => x.2.length).sum = (t.map fun x => x.2.length).sum + 1
  | [] => rfl
  | (t0, xs) :: r => by
    by_cases c : t0 = s
    · simp [addP, c]; omega
    · simp [addP, c, addP_sum s x r]; omega
theorem addP_len (s x : Rat) : ∀ t : List (Rat × List Rat), (addP t s x).length ≤ t.length + 1
  | [] => Nat.le_refl _
  | (t0, xs) :: r => by
    by_cases c : t0 = s
    · simp [addP, c]
    · have := addP_len s x r
      simp [addP, c]; omega
theorem tab_take (bs : List Bw) (L : Rat) (j : Nat) {b : Bw} (h : bs[j]? = some b) : tabW (bs.take (j + 1)) L = if b.u = 0 then tabW (bs.take j) L else addP (tabW (bs.take j) L) (gr b.u) (phR b L) := by
  unfold tabW
  rw [List.take_add_one, h]
  simp [List.foldl_append]
theorem tab_sum (L : Rat) : ∀ (bs : List Bw) (t : List (Rat × List Rat)), ((bs.foldl (fun t b => if b.u = 0 then t else addP t (gr b.u) (phR b L)) t).map fun x => x.2.length).sum ≤ (t.map fun x => x.2.length).sum + bs.length ∧ (bs.foldl (fun t b => if b.u = 0 then t else addP t (gr b.u) (phR b L)) t).length ≤ t.length + bs.length
  | [], t => ⟨Nat.le_refl _, Nat.le_refl _⟩
  | b :: bs, t => by
    have h := tab_sum L bs (if b.u = 0 then t else addP t (gr b.u) (phR b L))
    have h2 : ((if b.u = 0 then t else addP t (gr b.u) (phR b L)).map fun x => x.2.length).sum ≤ (t.map fun x => x.2.length).sum + 1 ∧ (if b.u = 0 then t else addP t (gr b.u) (phR b L)).length ≤ t.length + 1 := by
      split
      · omega
      · exact ⟨by rw [addP_sum]; exact Nat.le_refl _, addP_len _ _ _⟩
    rw [List.foldl_cons, List.length_cons]
    omega
theorem tab_le (bs : List Bw) (L : Rat) : ((tabW bs L).map fun x => x.2.length).sum ≤ bs.length ∧ (tabW bs L).length ≤ bs.length := by
  have := tab_sum L bs []
  unfold tabW
  simpa using this
theorem retOks_frR : ∀ xs : List Rat, retOks (xs.map frD) = true
  | [] => rfl
  | x :: xs => by rw [List.map_cons, retOks, retOks_frR xs] <;> rfl
theorem to_phases_by_speed : ∀ ss K E, F_phases_by_speed ss K E → defF [false, false] 4 sf_phases_by_speed ss K E := fun ss K E h => by
  obtain ⟨st, bs, L, rfl, rs, h⟩ := h
  have hl := rs.le
  simp [sf_phases_by_speed, cE, vE, bE, rE, fE, mE, bin, nilA, consA, bT, andT, orT, notT, tupE, lstE, allV, allM, okB, intR, addR, asL, asT, asD, eqR, eqD_nn, eqD_bb, eqD_ii, eqD_ss, eqD_tt, eqD_ll, eqD_bi, eqD_ib, eqD_nt, eqD_tn, eqD_it, eqD_ti, eqD_ni, eqD_in, eqDs_nn, eqDs_cc, eqDs_nc, eqDs_cn, cmpD, cmpDs, depD, depDs, isNon, isNR, chainE, tvE, andV, orV, notV, ifE, slEV, ixR, callV, lenC, isiC, tyN, pick, retEV, callP, argD, argDs, seqS, bkS, ctS, exprS, retS, retNS, ifS, evSl, setS, SK.loop, gN, gNil, gCons, gT, asgS, parS, defF, defK, raiseS, absC, divmodC, mmC, stL, itL, itT, itR1, itR2, itE, shL, itZ, itV, forS, evD, methL, appL, clrL, popL, insL, trL, extL, setixS, argS, argSs, callI, callN, hereA, nextA, negE, itS, wipeR, compE, compD, yesT, seqD, listC, tupC, numd, zipd, nxS, frSl, retSl, retSls, retOk, retOks, tryAsS, tryOnlyS, lookB, kinE, xfE, lookF, frzE, isTR, isTB, allC, blsD, gU, raiseIS, at0, at1, at2, at3, lrE, sortC, intC, intsD, slE, intO, cutD, borS, borT, bkR, okRho, eqXR, slX, addT, repT, inR, cmpO, heldR, appT, lrE, sortC, intC, intsD, slE, intO, cutD, eqXR, slX, addT, repT, compX, compDx, neYR, lrevE, tryMixS, mixH, suK, suR, suL, dnE]
  refine loop_inv (fun j ρ => ∃ x3, ρ = [.v (.lst st (bs.map wD)), .v (frD L), tabS (tabW (bs.take j) L), x3]) ⟨_, rfl⟩ ?_ ?_
  · rintro j e ρ K2 he ⟨x3, rfl⟩ next
    rw [List.getElem?_map] at he
    obtain ⟨b, hb, rfl⟩ := Option.map_eq_some_iff.mp he
    have tk := tab_take bs L j hb
    have tl := tab_le (bs.take j) L
    have ll : (bs.take j).length ≤ 12 := by rw [List.length_take]; omega
    have eg : gv_NOUGHT = frD (0 : Rat) := rfl
    obtain ⟨s1, s2⟩ := rs.sz b (List.mem_of_getElem? hb)
    have nx : K2 [.v (.lst st (bs.map wD)), .v (frD L), tabS (tabW (bs.take (j + 1)) L), .v (wD b)] := next _ ⟨_, rfl⟩
    simp [cE, vE, bE, rE, fE, mE, bin, nilA, consA, bT, andT, orT, notT, tupE, lstE, allV, allM, okB, intR, addR, asL, asT, asD, eqR, eqD_nn, eqD_bb, eqD_ii, eqD_ss, eqD_tt, eqD_ll, eqD_bi, eqD_ib, eqD_nt, eqD_tn, eqD_it, eqD_ti, eqD_ni, eqD_in, eqDs_nn, eqDs_cc, eqDs_nc, eqDs_cn, cmpD, cmpDs, depD, depDs, isNon, isNR, chainE, tvE, andV, orV, notV, ifE, slEV, ixR, callV, lenC, isiC, tyN, pick, retEV, callP, argD, argDs, seqS, bkS, ctS, exprS, retS, retNS, ifS, evSl, setS, SK.loop, gN, gNil, gCons, gT, asgS, parS, defF, defK, raiseS, absC, divmodC, mmC, stL, itL, itT, itR1, itR2, itE, shL, itZ, itV, forS, evD, methL, appL, clrL, popL, insL, trL, extL, setixS, argS, argSs, callI, callN, hereA, nextA, negE, itS, wipeR, compE, compD, yesT, seqD, listC, tupC, numd, zipd, nxS, frSl, retSl, retSls, retOk, retOks, tryAsS, tryOnlyS, lookB, kinE, xfE, lookF, frzE, isTR, isTB, allC, blsD, gU, raiseIS, at0, at1, at2, at3, lrE, sortC, intC, intsD, slE, intO, cutD, borS, borT, bkR, okRho, eqXR, slX, addT, repT, inR, cmpO, heldR, appT, lrE, sortC, intC, intsD, slE, intO, cutD, eqXR, slX, addT, repT, compX, compDx, neYR, lrevE, tryMixS, mixH, suK, suR, suL, wD, eg, rat_eq]
    by_cases c : b.u = 0
    · have dd : (((0 : Rat).den : Nat) : Int) = 1 := rfl
      rw [if_pos c] at tk
      rw [tk] at nx
      rw [if_neg fun z => z.elim (fun y => y c) fun y => y (by rw [c]; rfl)]
      exact nx
    · rw [if_neg c] at tk
      rw [if_pos (Or.inl c)]
      obtain ⟨ks, ss, jj, ds, p1, p2, p3, p4, p5⟩ := putD_tab (gr b.u) (phR b L) (tabW (bs.take j) L)
      simp [sdE, cE, vE, bE, rE, fE, mE, bin, nilA, consA, bT, andT, orT, notT, tupE, lstE, allV, allM, okB, intR, addR, asL, asT, asD, eqR, eqD_nn, eqD_bb, eqD_ii, eqD_ss, eqD_tt, eqD_ll, eqD_bi, eqD_ib, eqD_nt, eqD_tn, eqD_it, eqD_ti, eqD_ni, eqD_in, eqDs_nn, eqDs_cc, eqDs_nc, eqDs_cn, cmpD, cmpDs, depD, depDs, isNon, isNR, chainE, tvE, andV, orV, notV, ifE, slEV, ixR, callV, lenC, isiC, tyN, pick, retEV, callP, argD, argDs, seqS, bkS, ctS, exprS, retS, retNS, ifS, evSl, setS, SK.loop, gN, gNil, gCons, gT, asgS, parS, defF, defK, raiseS, absC, divmodC, mmC, stL, itL, itT, itR1, itR2, itE, shL, itZ, itV, forS, evD, methL, appL, clrL, popL, insL, trL, extL, setixS, argS, argSs, callI, callN, hereA, nextA, negE, itS, wipeR, compE, compD, yesT, seqD, listC, tupC, numd, zipd, nxS, frSl, retSl, retSls, retOk, retOks, tryAsS, tryOnlyS, lookB, kinE, xfE, lookF, frzE, isTR, isTB, allC, blsD, gU, raiseIS, at0, at1, at2, at3, lrE, sortC, intC, intsD, slE, intO, cutD, borS, borT, bkR, okRho, eqXR, slX, addT, repT, inR, cmpO, heldR, appT, lrE, sortC, intC, intsD, slE, intO, cutD, eqXR, slX, addT, repT, compX, compDx, neYR, lrevE, tryMixS, mixH, suK, suR, suL, tabS]
      refine ⟨b.u, rfl, s2.mono (by decide), ?_⟩
      simp [cE, vE, bE, rE, fE, mE, bin, nilA, consA, bT, andT, orT, notT, tupE, lstE, allV, allM, okB, intR, addR, asL, asT, asD, eqR, eqD_nn, eqD_bb, eqD_ii, eqD_ss, eqD_tt, eqD_ll, eqD_bi, eqD_ib, eqD_nt, eqD_tn, eqD_it, eqD_ti, eqD_ni, eqD_in, eqDs_nn, eqDs_cc, eqDs_nc, eqDs_cn, cmpD, cmpDs, depD, depDs, isNon, isNR, chainE, tvE, andV, orV, notV, ifE, slEV, ixR, callV, lenC, isiC, tyN, pick, retEV, callP, argD, argDs, seqS, bkS, ctS, exprS, retS, retNS, ifS, evSl, setS, SK.loop, gN, gNil, gCons, gT, asgS, parS, defF, defK, raiseS, absC, divmodC, mmC, stL, itL, itT, itR1, itR2, itE, shL, itZ, itV, forS, evD, methL, appL, clrL, popL, insL, trL, extL, setixS, argS, argSs, callI, callN, hereA, nextA, negE, itS, wipeR, compE, compD, yesT, seqD, listC, tupC, numd, zipd, nxS, frSl, retSl, retSls, retOk, retOks, tryAsS, tryOnlyS, lookB, kinE, xfE, lookF, frzE, isTR, isTB, allC, blsD, gU, raiseIS, at0, at1, at2, at3, lrE, sortC, intC, intsD, slE, intO, cutD, borS, borT, bkR, okRho, eqXR, slX, addT, repT, inR, cmpO, heldR, appT, lrE, sortC, intC, intsD, slE, intO, cutD, eqXR, slX, addT, repT, compX, compDx, neYR, lrevE, tryMixS, mixH, suK, suR, suL, keyT_fr, p1, p2]
      refine ⟨by omega, b, L, rfl, ⟨s1.mono (by decide), s2.mono (by decide), rs.sl.mono (by decide)⟩, ?_⟩
      simp [cE, vE, bE, rE, fE, mE, bin, nilA, consA, bT, andT, orT, notT, tupE, lstE, allV, allM, okB, intR, addR, asL, asT, asD, eqR, eqD_nn, eqD_bb, eqD_ii, eqD_ss, eqD_tt, eqD_ll, eqD_bi, eqD_ib, eqD_nt, eqD_tn, eqD_it, eqD_ti, eqD_ni, eqD_in, eqDs_nn, eqDs_cc, eqDs_nc, eqDs_cn, cmpD, cmpDs, depD, depDs, isNon, isNR, chainE, tvE, andV, orV, notV, ifE, slEV, ixR, callV, lenC, isiC, tyN, pick, retEV, callP, argD, argDs, seqS, bkS, ctS, exprS, retS, retNS, ifS, evSl, setS, SK.loop, gN, gNil, gCons, gT, asgS, parS, defF, defK, raiseS, absC, divmodC, mmC, stL, itL, itT, itR1, itR2, itE, shL, itZ, itV, forS, evD, methL, appL, clrL, popL, insL, trL, extL, setixS, argS, argSs, callI, callN, hereA, nextA, negE, itS, wipeR, compE, compD, yesT, seqD, listC, tupC, numd, zipd, nxS, frSl, retSl, retSls, retOk, retOks, tryAsS, tryOnlyS, lookB, kinE, xfE, lookF, frzE, isTR, isTB, allC, blsD, gU, raiseIS, at0, at1, at2, at3, lrE, sortC, intC, intsD, slE, intO, cutD, borS, borT, bkR, okRho, eqXR, slX, addT, repT, inR, cmpO, heldR, appT, lrE, sortC, intC, intsD, slE, intO, cutD, eqXR, slX, addT, repT, compX, compDx, neYR, lrevE, tryMixS, mixH, suK, suR, suL, evD]
      rw [tk, tabS, ← p4, ← p5] at nx
      exact ⟨by omega, nx⟩
  · rintro ρ ⟨x3, rfl⟩
    rw [List.length_map, List.take_length]
    have hr : ∀ t : List (Rat × List Rat), retSls (t.map fun x => valQ x.2) = true := fun t => by
      induction t with
      | nil => rfl
      | cons x t ih =>
        rw [List.map_cons, retSls, ih, valQ, retSl, retOks_frR]
        rfl
    simp [cE, vE, bE, rE, fE, mE, bin, nilA, consA, bT, andT, orT, notT, tupE, lstE, allV, allM, okB, intR, addR, asL, asT, asD, eqR, eqD_nn, eqD_bb, eqD_ii, eqD_ss, eqD_tt, eqD_ll, eqD_bi, eqD_ib, eqD_nt, eqD_tn, eqD_it, eqD_ti, eqD_ni, eqD_in, eqDs_nn, eqDs_cc, eqDs_nc, eqDs_cn, cmpD, cmpDs, depD, depDs, isNon, isNR, chainE, tvE, andV, orV, notV, ifE, slEV, ixR, callV, lenC, isiC, tyN, pick, retEV, callP, argD, argDs, seqS, bkS, ctS, exprS, retS, retNS, ifS, evSl, setS, SK.loop, gN, gNil, gCons, gT, asgS, parS, defF, defK, raiseS, absC, divmodC, mmC, stL, itL, itT, itR1, itR2, itE, shL, itZ, itV, forS, evD, methL, appL, clrL, popL, insL, trL, extL, setixS, argS, argSs, callI, callN, hereA, nextA, negE, itS, wipeR, compE, compD, yesT, seqD, listC, tupC, numd, zipd, nxS, frSl, retSl, retSls, retOk, retOks, tryAsS, tryOnlyS, lookB, kinE, xfE, lookF, frzE, isTR, isTB, allC, blsD, gU, raiseIS, at0, at1, at2, at3, lrE, sortC, intC, intsD, slE, intO, cutD, borS, borT, bkR, okRho, eqXR, slX, addT, repT, inR, cmpO, heldR, appT, lrE, sortC, intC, intsD, slE, intO, cutD, eqXR, slX, addT, repT, compX, compDx, neYR, lrevE, tryMixS, mixH, suK, suR, suL, tabS]
    exact ⟨hr _, h⟩
theorem eqD_fr (a b : Rat) : eqD (frD a) (frD b) = decide (a = b) := by
  have e : eqD (frD a) (frD b) = (decide (a.num = b.num) && decide ((a.den : Int) = (b.den : Int))) := by simp [frD, eqD, eqDs]; rfl
  rw [e]
  by_cases c : a = b
  · simp [c]
  · rw [decide_eq_false c]
    by_cases d : a.num = b.num
    · have : ¬ (a.den : Int) = (b.den : Int) := fun z => c (rat_eq.mp ⟨d, z⟩)
      rw [decide_eq_true d, decide_eq_false this] <;> rfl
    · rw [decide_eq_false d] <;> rfl
theorem cmp_frs : ∀ xs : List Rat, cmpDs (xs.map frD) = true ∧ depDs (xs.map frD) ≤ 2
  | [] => by simp [cmpDs, depDs]
  | x :: xs => by
    obtain ⟨h1, h2⟩ := cmp_frs xs
    simp only [List.map_cons, cmpDs, depDs, h1, Bool.and_true]
    exact ⟨rfl, by simp [frD, depD, depDs]; omega⟩
theorem to_turns_to_itself : ∀ ss K E, F_turns_to_itself ss K E → defF [false, false, false] 5 sf_turns_to_itself ss K E := fun ss K E h => by
  obtain ⟨st, xs, T, k, rfl, ⟨ps, k1, k2⟩, h⟩ := h
  have ne : ¬ k = 0 := by omega
  have sk : Si 10 k := by unfold Si; omega
  have sk4 := sk.mono (m := 8100) (by decide)
  have z1 : Si 8100 (1 : Int) := by unfold Si; decide
  have d1 : ∀ q : Rat, q / 1 = q := fun q => by grind
  have sT := ps.st
  have kq : ((k : Rat)) ≠ 0 := by exact_mod_cast ne
  have kn : ¬ ((k : Rat)).num = 0 := by simpa using ne
  have sp := sT.quo (Sm.int sk) kq
  simp [sf_turns_to_itself, cE, vE, bE, rE, fE, mE, bin, nilA, consA, bT, andT, orT, notT, tupE, lstE, allV, allM, okB, intR, addR, asL, asT, asD, eqR, eqD_nn, eqD_bb, eqD_ii, eqD_ss, eqD_tt, eqD_ll, eqD_bi, eqD_ib, eqD_nt, eqD_tn, eqD_it, eqD_ti, eqD_ni, eqD_in, eqDs_nn, eqDs_cc, eqDs_nc, eqDs_cn, cmpD, cmpDs, depD, depDs, isNon, isNR, chainE, tvE, andV, orV, notV, ifE, slEV, ixR, callV, lenC, isiC, tyN, pick, retEV, callP, argD, argDs, seqS, bkS, ctS, exprS, retS, retNS, ifS, evSl, setS, SK.loop, gN, gNil, gCons, gT, asgS, parS, defF, defK, raiseS, absC, divmodC, mmC, stL, itL, itT, itR1, itR2, itE, shL, itZ, itV, forS, evD, methL, appL, clrL, popL, insL, trL, extL, setixS, argS, argSs, callI, callN, hereA, nextA, negE, itS, wipeR, compE, compD, yesT, seqD, listC, tupC, numd, zipd, nxS, frSl, retSl, retSls, retOk, retOks, tryAsS, tryOnlyS, lookB, kinE, xfE, lookF, frzE, isTR, isTB, allC, blsD, gU, raiseIS, at0, at1, at2, at3, lrE, sortC, intC, intsD, slE, intO, cutD, borS, borT, bkR, okRho, eqXR, slX, addT, repT, inR, cmpO, heldR, appT, lrE, sortC, intC, intsD, slE, intO, cutD, eqXR, slX, addT, repT, compX, compDx, neYR, lrevE, tryMixS, mixH, suK, suR, suL, F_over, F_fraction, Rat.den_nz, nd, ne, d1]
  refine ⟨z1, ⟨by (repeat' with_reducible apply And.intro) <;> try first | assumption | exact Sm.n (by assumption) | exact Sm.d (by assumption) | exact Si.mono (by assumption) (by decide) | exact dpos _ | exact Rat.nz _ | exact Rat.den_nz _, by (repeat' with_reducible apply And.intro) <;> try first | assumption | exact Sm.n (by assumption) | exact Sm.d (by assumption) | exact Si.mono (by assumption) (by decide) | exact dpos _ | exact Rat.nz _ | exact Rat.den_nz _, sk.mono (by decide), by unfold Si; decide⟩, ?_⟩
  refine loop_inv (fun j ρ => ∃ x4, ρ = [.v (.lst st (xs.map frD)), .v (frD T), .v (.int k), .v (frD (T / (k : Rat))), x4] ∧ ∀ i, i < j → ∀ x, xs[i]? = some x → rst (x + T / (k : Rat)) T ∈ xs) ⟨_, rfl, fun i hi => absurd hi (by omega)⟩ ?_ ?_
  · rintro j e ρ K2 he ⟨x4, rfl, ih⟩ next
    rw [List.getElem?_map] at he
    obtain ⟨x, hx, rfl⟩ := Option.map_eq_some_iff.mp he
    have sx := ps.sz x (List.mem_of_getElem? hx)
    have ss2 := sx.add sp
    simp [cE, vE, bE, rE, fE, mE, bin, nilA, consA, bT, andT, orT, notT, tupE, lstE, allV, allM, okB, intR, addR, asL, asT, asD, eqR, eqD_nn, eqD_bb, eqD_ii, eqD_ss, eqD_tt, eqD_ll, eqD_bi, eqD_ib, eqD_nt, eqD_tn, eqD_it, eqD_ti, eqD_ni, eqD_in, eqDs_nn, eqDs_cc, eqDs_nc, eqDs_cn, cmpD, cmpDs, depD, depDs, isNon, isNR, chainE, tvE, andV, orV, notV, ifE, slEV, ixR, callV, lenC, isiC, tyN, pick, retEV, callP, argD, argDs, seqS, bkS, ctS, exprS, retS, retNS, ifS, evSl, setS, SK.loop, gN, gNil, gCons, gT, asgS, parS, defF, defK, raiseS, absC, divmodC, mmC, stL, itL, itT, itR1, itR2, itE, shL, itZ, itV, forS, evD, methL, appL, clrL, popL, insL, trL, extL, setixS, argS, argSs, callI, callN, hereA, nextA, negE, itS, wipeR, compE, compD, yesT, seqD, listC, tupC, numd, zipd, nxS, frSl, retSl, retSls, retOk, retOks, tryAsS, tryOnlyS, lookB, kinE, xfE, lookF, frzE, isTR, isTB, allC, blsD, gU, raiseIS, at0, at1, at2, at3, lrE, sortC, intC, intsD, slE, intO, cutD, borS, borT, bkR, okRho, eqXR, slX, addT, repT, inR, cmpO, heldR, appT, lrE, sortC, intC, intsD, slE, intO, cutD, eqXR, slX, addT, repT, compX, compDx, neYR, lrevE, tryMixS, mixH, suK, suR, suL, F_plus, F_two, Rat.den_nz, nd]
    refine ⟨by (repeat' with_reducible apply And.intro) <;> try first | assumption | exact Sm.n (by assumption) | exact Sm.d (by assumption) | exact Si.mono (by assumption) (by decide) | exact dpos _ | exact Rat.nz _ | exact Rat.den_nz _, x + T / (k : Rat), T, rfl, ⟨ps.t0, ss2.mono (by decide), sT.mono (by decide)⟩, ?_⟩
    obtain ⟨c1, c2⟩ := cmp_frs xs
    simp [cE, vE, bE, rE, fE, mE, bin, nilA, consA, bT, andT, orT, notT, tupE, lstE, allV, allM, okB, intR, addR, asL, asT, asD, eqR, eqD_nn, eqD_bb, eqD_ii, eqD_ss, eqD_tt, eqD_ll, eqD_bi, eqD_ib, eqD_nt, eqD_tn, eqD_it, eqD_ti, eqD_ni, eqD_in, eqDs_nn, eqDs_cc, eqDs_nc, eqDs_cn, cmpD, cmpDs, depD, depDs, isNon, isNR, chainE, tvE, andV, orV, notV, ifE, slEV, ixR, callV, lenC, isiC, tyN, pick, retEV, callP, argD, argDs, seqS, bkS, ctS, exprS, retS, retNS, ifS, evSl, setS, SK.loop, gN, gNil, gCons, gT, asgS, parS, defF, defK, raiseS, absC, divmodC, mmC, stL, itL, itT, itR1, itR2, itE, shL, itZ, itV, forS, evD, methL, appL, clrL, popL, insL, trL, extL, setixS, argS, argSs, callI, callN, hereA, nextA, negE, itS, wipeR, compE, compD, yesT, seqD, listC, tupC, numd, zipd, nxS, frSl, retSl, retSls, retOk, retOks, tryAsS, tryOnlyS, lookB, kinE, xfE, lookF, frzE, isTR, isTB, allC, blsD, gU, raiseIS, at0, at1, at2, at3, lrE, sortC, intC, intsD, slE, intO, cutD, borS, borT, bkR, okRho, eqXR, slX, addT, repT, inR, cmpO, heldR, appT, lrE, sortC, intC, intsD, slE, intO, cutD, eqXR, slX, addT, repT, compX, compDx, neYR, lrevE, tryMixS, mixH, suK, suR, suL]
    refine ⟨⟨c1, by omega⟩, ?_⟩
    by_cases c : rst (x + T / (k : Rat)) T ∈ xs
    · rw [if_neg fun z => z _ c rfl rfl]
      refine next _ ⟨_, rfl, fun i hi y hy => ?_⟩
      by_cases w : i = j
      · subst w
        rw [hx] at hy
        cases hy
        exact c
      · exact ih i (by omega) y hy
    · rw [if_pos fun a ha e1 e2 => c (by rw [← rat_eq.mp ⟨e1, e2⟩]; exact ha)]
      have : turnsQ xs T k = false := by
        unfold turnsQ
        rw [← Bool.not_eq_true, List.all_eq_true]
        exact fun z => c (of_decide_eq_true (z x (List.mem_of_getElem? hx)))
      rw [this] at h
      exact h
  · rintro ρ ⟨x4, rfl, ih⟩
    have : turnsQ xs T k = true := by
      unfold turnsQ
      rw [List.all_eq_true]
      intro x hx
      obtain ⟨i, hi⟩ := List.getElem?_of_mem hx
      exact decide_eq_true (ih i (by rw [List.length_map]; exact (List.getElem?_eq_some_iff.mp hi).1) x hi)
    rw [this] at h
    simp [cE, vE, bE, rE, fE, mE, bin, nilA, consA, bT, andT, orT, notT, tupE, lstE, allV, allM, okB, intR, addR, asL, asT, asD, eqR, eqD_nn, eqD_bb, eqD_ii, eqD_ss, eqD_tt, eqD_ll, eqD_bi, eqD_ib, eqD_nt, eqD_tn, eqD_it, eqD_ti, eqD_ni, eqD_in, eqDs_nn, eqDs_cc, eqDs_nc, eqDs_cn, cmpD, cmpDs, depD, depDs, isNon, isNR, chainE, tvE, andV, orV, notV, ifE, slEV, ixR, callV, lenC, isiC, tyN, pick, retEV, callP, argD, argDs, seqS, bkS, ctS, exprS, retS, retNS, ifS, evSl, setS, SK.loop, gN, gNil, gCons, gT, asgS, parS, defF, defK, raiseS, absC, divmodC, mmC, stL, itL, itT, itR1, itR2, itE, shL, itZ, itV, forS, evD, methL, appL, clrL, popL, insL, trL, extL, setixS, argS, argSs, callI, callN, hereA, nextA, negE, itS, wipeR, compE, compD, yesT, seqD, listC, tupC, numd, zipd, nxS, frSl, retSl, retSls, retOk, retOks, tryAsS, tryOnlyS, lookB, kinE, xfE, lookF, frzE, isTR, isTB, allC, blsD, gU, raiseIS, at0, at1, at2, at3, lrE, sortC, intC, intsD, slE, intO, cutD, borS, borT, bkR, okRho, eqXR, slX, addT, repT, inR, cmpO, heldR, appT, lrE, sortC, intC, intsD, slE, intO, cutD, eqXR, slX, addT, repT, compX, compDx, neYR, lrevE, tryMixS, mixH, suK, suR, suL]
    exact h
theorem gcd_step (a b : Int) (ha : 0 ≤ a) (hb : 0 < b) : Int.gcd b (a - a.fdiv b * b) = Int.gcd a b ∧ 0 ≤ a - a.fdiv b * b ∧ a - a.fdiv b * b < b := by
  have e : a.fdiv b = a / b := Int.fdiv_eq_ediv_of_nonneg _ (by omega)
  have e2 : a - a / b * b = a % b := by rw [Int.emod_def, Int.mul_comm]
  rw [e, e2]
  refine ⟨?_, Int.emod_nonneg _ (by omega), Int.emod_lt_of_pos _ hb⟩
  rw [Int.emod_def, show a - b * (a / b) = a + b * -(a / b) by grind, Int.gcd_add_mul_left_right, Int.gcd_comm]
theorem to_common_part : ∀ ss K E, F_common_part ss K E → defF [false, false] 2 sf_common_part ss K E := fun ss K E h => by
  obtain ⟨a, b, rfl, ⟨a0, b0, sa, sb⟩, h⟩ := h
  simp [sf_common_part, cE, vE, bE, rE, fE, mE, bin, nilA, consA, bT, andT, orT, notT, tupE, lstE, allV, allM, okB, intR, addR, asL, asT, asD, eqR, eqD_nn, eqD_bb, eqD_ii, eqD_ss, eqD_tt, eqD_ll, eqD_bi, eqD_ib, eqD_nt, eqD_tn, eqD_it, eqD_ti, eqD_ni, eqD_in, eqDs_nn, eqDs_cc, eqDs_nc, eqDs_cn, cmpD, cmpDs, depD, depDs, isNon, isNR, chainE, tvE, andV, orV, notV, ifE, slEV, ixR, callV, lenC, isiC, tyN, pick, retEV, callP, argD, argDs, seqS, bkS, ctS, exprS, retS, retNS, ifS, evSl, setS, SK.loop, gN, gNil, gCons, gT, asgS, parS, defF, defK, raiseS, absC, divmodC, mmC, stL, itL, itT, itR1, itR2, itE, shL, itZ, itV, forS, evD, methL, appL, clrL, popL, insL, trL, extL, setixS, argS, argSs, callI, callN, hereA, nextA, negE, itS, wipeR, compE, compD, yesT, seqD, listC, tupC, numd, zipd, nxS, frSl, retSl, retSls, retOk, retOks, tryAsS, tryOnlyS, lookB, kinE, xfE, lookF, frzE, isTR, isTB, allC, blsD, gU, raiseIS, at0, at1, at2, at3, lrE, sortC, intC, intsD, slE, intO, cutD, borS, borT, bkR, okRho, eqXR, slX, addT, repT, inR, cmpO, heldR, appT, lrE, sortC, intC, intsD, slE, intO, cutD, eqXR, slX, addT, repT, compX, compDx, neYR, lrevE, tryMixS, mixH, suK, suR, suL]
  refine while_inv (n := b.toNat) (fun m ρ => ∃ x y : Int, ρ = [.v (.int x), .v (.int y)] ∧ 0 ≤ x ∧ 0 ≤ y ∧ Si 4000 x ∧ Si 4000 y ∧ m = y.toNat ∧ Int.gcd x y = Int.gcd a b) ⟨a, b, rfl, a0, b0, sa, sb, rfl, rfl⟩ ?_
  rintro m ρ K2 ⟨x, y, rfl, x0, y0, sx, sy, rfl, eg⟩ next
  simp [cE, vE, bE, rE, fE, mE, bin, nilA, consA, bT, andT, orT, notT, tupE, lstE, allV, allM, okB, intR, addR, asL, asT, asD, eqR, eqD_nn, eqD_bb, eqD_ii, eqD_ss, eqD_tt, eqD_ll, eqD_bi, eqD_ib, eqD_nt, eqD_tn, eqD_it, eqD_ti, eqD_ni, eqD_in, eqDs_nn, eqDs_cc, eqDs_nc, eqDs_cn, cmpD, cmpDs, depD, depDs, isNon, isNR, chainE, tvE, andV, orV, notV, ifE, slEV, ixR, callV, lenC, isiC, tyN, pick, retEV, callP, argD, argDs, seqS, bkS, ctS, exprS, retS, retNS, ifS, evSl, setS, SK.loop, gN, gNil, gCons, gT, asgS, parS, defF, defK, raiseS, absC, divmodC, mmC, stL, itL, itT, itR1, itR2, itE, shL, itZ, itV, forS, evD, methL, appL, clrL, popL, insL, trL, extL, setixS, argS, argSs, callI, callN, hereA, nextA, negE, itS, wipeR, compE, compD, yesT, seqD, listC, tupC, numd, zipd, nxS, frSl, retSl, retSls, retOk, retOks, tryAsS, tryOnlyS, lookB, kinE, xfE, lookF, frzE, isTR, isTB, allC, blsD, gU, raiseIS, at0, at1, at2, at3, lrE, sortC, intC, intsD, slE, intO, cutD, borS, borT, bkR, okRho, eqXR, slX, addT, repT, inR, cmpO, heldR, appT, lrE, sortC, intC, intsD, slE, intO, cutD, eqXR, slX, addT, repT, compX, compDx, neYR, lrevE, tryMixS, mixH, suK, suR, suL]
  by_cases c : 0 < y
  · obtain ⟨g1, g2, g3⟩ := gcd_step x y x0 c
    have sm : Si 4000 (x - x.fdiv y * y) := sy.of_le (by omega)
    have sq : Si 4000 (x.fdiv y) := sx.of_le (by
      have e : x.fdiv y = x / y := Int.fdiv_eq_ediv_of_nonneg _ (by omega)
      rw [e]
      have h1 := Int.ediv_nonneg x0 y0
      have h2 := Int.ediv_le_self y x0
      omega)
    rw [if_pos c]
    refine ⟨divOk_of sy (by decide) (by omega), MulOk.of sq sy (by decide), ?_⟩
    exact next _ _ (by omega) ⟨y, x - x.fdiv y * y, rfl, by omega, g2, sy, sm, rfl, g1.trans eg⟩
  · rw [if_neg c]
    have : y = 0 := by omega
    subst this
    have e2 : ((Int.gcd a b : Nat) : Int) = x := by rw [← eg, Int.gcd_zero_right]; omega
    rw [e2] at h
    exact h
theorem fl_in {q : Rat} {n : Int} (h1 : (n : Rat) ≤ q) (h2 : q < (n : Rat) + 1) : fl q = n := by
  obtain ⟨g1, g2⟩ := fl_b q
  have a1 : ((fl q : Int) : Rat) < ((n + 1 : Int) : Rat) := by
    have : (((n + 1 : Int)) : Rat) = (n : Rat) + 1 := by simp
    rw [this]; grind
  have a2 : ((n : Int) : Rat) < ((fl q + 1 : Int) : Rat) := by
    have : (((fl q + 1 : Int)) : Rat) = (fl q : Rat) + 1 := by simp
    rw [this]; grind
  have b1 : fl q < n + 1 := by exact_mod_cast a1
  have b2 : n < fl q + 1 := by exact_mod_cast a2
  omega
/-- once round: as before -/
theorem rst_round {x T : Rat} (T0 : 0 < T) (h0 : 0 ≤ x) (h1 : x < T) : rst (x + T) T = x := by
  have tn : T ≠ 0 := by grind
  have e : (x + T) / T = x / T + 1 := by grind
  have ex : x / T * T = x := by grind
  have q0 : 0 ≤ x / T := Rat.not_lt.mp fun z => by
    have := Rat.mul_lt_mul_of_pos_right z T0
    grind
  have q1 : x / T < 1 := Rat.not_le.mp fun z => by
    have := Rat.mul_le_mul_of_nonneg_right z (Rat.le_of_lt T0)
    grind
  have ef : fl ((x + T) / T) = 1 := fl_in (by rw [e]; simp; grind) (by rw [e]; simp; grind)
  unfold rst
  rw [ef]
  simp
  grind
theorem turns_one {xs : List Rat} {T : Rat} (T0 : 0 < T) (h : ∀ x ∈ xs, 0 ≤ x ∧ x < T) : turnsQ xs T ((0 + 1 : Nat) : Int) = true := by
  unfold turnsQ
  rw [List.all_eq_true]
  intro x hx
  have e : T / ((((0 + 1 : Nat) : Int)) : Rat) = T := by simp; grind
  rw [e, rst_round T0 (h x hx).1 (h x hx).2]
  exact decide_eq_true hx
theorem pt_le {xs : List Rat} {T : Rat} (T0 : 0 < T) (h : ∀ x ∈ xs, 0 ≤ x ∧ x < T) : ∀ n, ptQ xs T n ≤ n ∧ (1 ≤ n → 1 ≤ ptQ xs T n)
  | 0 => ⟨Nat.le_refl _, fun z => absurd z (by omega)⟩
  | n + 1 => by
    obtain ⟨h1, h2⟩ := pt_le T0 h n
    unfold ptQ
    split
    · omega
    · rename_i c
      cases n with
      | zero => exact absurd (turns_one T0 h) c
      | succ n => exact ⟨by omega, fun _ => h2 (by omega)⟩
theorem to_round_by : ∀ ss K E, F_round_by ss K E → defF [false, false, false] 4 sf_round_by ss K E := fun ss K E h => by
  obtain ⟨st, xs, T, s, rfl, ⟨ps, l1, hx, sm, s0⟩, h⟩ := h
  have hl := ps.le
  simp [sf_round_by, cE, vE, bE, rE, fE, mE, bin, nilA, consA, bT, andT, orT, notT, tupE, lstE, allV, allM, okB, intR, addR, asL, asT, asD, eqR, eqD_nn, eqD_bb, eqD_ii, eqD_ss, eqD_tt, eqD_ll, eqD_bi, eqD_ib, eqD_nt, eqD_tn, eqD_it, eqD_ti, eqD_ni, eqD_in, eqDs_nn, eqDs_cc, eqDs_nc, eqDs_cn, cmpD, cmpDs, depD, depDs, isNon, isNR, chainE, tvE, andV, orV, notV, ifE, slEV, ixR, callV, lenC, isiC, tyN, pick, retEV, callP, argD, argDs, seqS, bkS, ctS, exprS, retS, retNS, ifS, evSl, setS, SK.loop, gN, gNil, gCons, gT, asgS, parS, defF, defK, raiseS, absC, divmodC, mmC, stL, itL, itT, itR1, itR2, itE, shL, itZ, itV, forS, evD, methL, appL, clrL, popL, insL, trL, extL, setixS, argS, argSs, callI, callN, hereA, nextA, negE, itS, wipeR, compE, compD, yesT, seqD, listC, tupC, numd, zipd, nxS, frSl, retSl, retSls, retOk, retOks, tryAsS, tryOnlyS, lookB, kinE, xfE, lookF, frzE, isTR, isTB, allC, blsD, gU, raiseIS, at0, at1, at2, at3, lrE, sortC, intC, intsD, slE, intO, cutD, borS, borT, bkR, okRho, eqXR, slX, addT, repT, inR, cmpO, heldR, appT, lrE, sortC, intC, intsD, slE, intO, cutD, eqXR, slX, addT, repT, compX, compDx, neYR, lrevE, tryMixS, mixH, suK, suR, suL]
  refine while_inv (n := xs.length) (fun m ρ => ρ = [.v (.lst st (xs.map frD)), .v (frD T), .v (frD s), .v (.int (m : Nat))] ∧ 1 ≤ m ∧ m ≤ 12 ∧ ptQ xs T m = ptQ xs T xs.length) ⟨rfl, l1, hl, rfl⟩ ?_
  rintro m ρ K2 ⟨rfl, m1, m2, em⟩ next
  simp [cE, vE, bE, rE, fE, mE, bin, nilA, consA, bT, andT, orT, notT, tupE, lstE, allV, allM, okB, intR, addR, asL, asT, asD, eqR, eqD_nn, eqD_bb, eqD_ii, eqD_ss, eqD_tt, eqD_ll, eqD_bi, eqD_ib, eqD_nt, eqD_tn, eqD_it, eqD_ti, eqD_ni, eqD_in, eqDs_nn, eqDs_cc, eqDs_nc, eqDs_cn, cmpD, cmpDs, depD, depDs, isNon, isNR, chainE, tvE, andV, orV, notV, ifE, slEV, ixR, callV, lenC, isiC, tyN, pick, retEV, callP, argD, argDs, seqS, bkS, ctS, exprS, retS, retNS, ifS, evSl, setS, SK.loop, gN, gNil, gCons, gT, asgS, parS, defF, defK, raiseS, absC, divmodC, mmC, stL, itL, itT, itR1, itR2, itE, shL, itZ, itV, forS, evD, methL, appL, clrL, popL, insL, trL, extL, setixS, argS, argSs, callI, callN, hereA, nextA, negE, itS, wipeR, compE, compD, yesT, seqD, listC, tupC, numd, zipd, nxS, frSl, retSl, retSls, retOk, retOks, tryAsS, tryOnlyS, lookB, kinE, xfE, lookF, frzE, isTR, isTB, allC, blsD, gU, raiseIS, at0, at1, at2, at3, lrE, sortC, intC, intsD, slE, intO, cutD, borS, borT, bkR, okRho, eqXR, slX, addT, repT, inR, cmpO, heldR, appT, lrE, sortC, intC, intsD, slE, intO, cutD, eqXR, slX, addT, repT, compX, compDx, neYR, lrevE, tryMixS, mixH, suK, suR, suL]
  refine ⟨st, xs, T, (m : Nat), rfl, ⟨ps, by omega, by omega⟩, ?_⟩
  obtain ⟨n, rfl⟩ : ∃ n, m = n + 1 := ⟨m - 1, by omega⟩
  simp [cE, vE, bE, rE, fE, mE, bin, nilA, consA, bT, andT, orT, notT, tupE, lstE, allV, allM, okB, intR, addR, asL, asT, asD, eqR, eqD_nn, eqD_bb, eqD_ii, eqD_ss, eqD_tt, eqD_ll, eqD_bi, eqD_ib, eqD_nt, eqD_tn, eqD_it, eqD_ti, eqD_ni, eqD_in, eqDs_nn, eqDs_cc, eqDs_nc, eqDs_cn, cmpD, cmpDs, depD, depDs, isNon, isNR, chainE, tvE, andV, orV, notV, ifE, slEV, ixR, callV, lenC, isiC, tyN, pick, retEV, callP, argD, argDs, seqS, bkS, ctS, exprS, retS, retNS, ifS, evSl, setS, SK.loop, gN, gNil, gCons, gT, asgS, parS, defF, defK, raiseS, absC, divmodC, mmC, stL, itL, itT, itR1, itR2, itE, shL, itZ, itV, forS, evD, methL, appL, clrL, popL, insL, trL, extL, setixS, argS, argSs, callI, callN, hereA, nextA, negE, itS, wipeR, compE, compD, yesT, seqD, listC, tupC, numd, zipd, nxS, frSl, retSl, retSls, retOk, retOks, tryAsS, tryOnlyS, lookB, kinE, xfE, lookF, frzE, isTR, isTB, allC, blsD, gU, raiseIS, at0, at1, at2, at3, lrE, sortC, intC, intsD, slE, intO, cutD, borS, borT, bkR, okRho, eqXR, slX, addT, repT, inR, cmpO, heldR, appT, lrE, sortC, intC, intsD, slE, intO, cutD, eqXR, slX, addT, repT, compX, compDx, neYR, lrevE, tryMixS, mixH, suK, suR, suL]
  cases c : turnsQ xs T ((n + 1 : Nat) : Int) with
  | false =>
    have c' : turnsQ xs T ((n : Int) + 1) = false := c
    simp [c']
    have en : ptQ xs T (n + 1) = ptQ xs T n := by rw [ptQ, c]; rfl
    have n1 : 1 ≤ n := by
      cases n with
      | zero => rw [turns_one ps.t0 hx] at c; cases c
      | succ n => omega
    exact next n _ (by omega) ⟨by simp, n1, by omega, by rw [← en]; exact em⟩
  | true =>
    have c' : turnsQ xs T ((n : Int) + 1) = true := c
    simp [c']
    have en : ptQ xs T (n + 1) = n + 1 := by rw [ptQ, c]; rfl
    have er : rbQ xs T s = T / (s * (((n : Int) + 1 : Int) : Rat)) := by
      unfold rbQ
      rw [← em, en]
      rfl
    have sk : Si 10 ((n : Int) + 1) := by unfold Si; omega
    have kn : ¬ ((n : Int) + 1 : Int) = 0 := by omega
    have kp : (0 : Rat) < (((n : Int) + 1 : Int) : Rat) := by exact_mod_cast (by omega : (0 : Int) < (n : Int) + 1)
    have z1 : Si 8100 (1 : Int) := by unfold Si; decide
    have d1 : ∀ q : Rat, q / 1 = q := fun q => by grind
    have sT := ps.st
    have sk2 := Sm.int sk
    have sm2 := sm.mul sk2
    have mp : (0 : Rat) < s * (((n : Int) + 1 : Int) : Rat) := Rat.mul_pos s0 kp
    have mn : ¬ (s * (((n : Int) + 1 : Int) : Rat)).num = 0 := fun z => by have := Rat.num_eq_zero.mp z; grind
    rw [er] at h
    have ec : (((n : Int) + 1 : Int) : Rat) = ((n : Int) : Rat) + 1 := by simp
    rw [ec] at sk2 sm2 mp h kp
    simp [cE, vE, bE, rE, fE, mE, bin, nilA, consA, bT, andT, orT, notT, tupE, lstE, allV, allM, okB, intR, addR, asL, asT, asD, eqR, eqD_nn, eqD_bb, eqD_ii, eqD_ss, eqD_tt, eqD_ll, eqD_bi, eqD_ib, eqD_nt, eqD_tn, eqD_it, eqD_ti, eqD_ni, eqD_in, eqDs_nn, eqDs_cc, eqDs_nc, eqDs_cn, cmpD, cmpDs, depD, depDs, isNon, isNR, chainE, tvE, andV, orV, notV, ifE, slEV, ixR, callV, lenC, isiC, tyN, pick, retEV, callP, argD, argDs, seqS, bkS, ctS, exprS, retS, retNS, ifS, evSl, setS, SK.loop, gN, gNil, gCons, gT, asgS, parS, defF, defK, raiseS, absC, divmodC, mmC, stL, itL, itT, itR1, itR2, itE, shL, itZ, itV, forS, evD, methL, appL, clrL, popL, insL, trL, extL, setixS, argS, argSs, callI, callN, hereA, nextA, negE, itS, wipeR, compE, compD, yesT, seqD, listC, tupC, numd, zipd, nxS, frSl, retSl, retSls, retOk, retOks, tryAsS, tryOnlyS, lookB, kinE, xfE, lookF, frzE, isTR, isTB, allC, blsD, gU, raiseIS, at0, at1, at2, at3, lrE, sortC, intC, intsD, slE, intO, cutD, borS, borT, bkR, okRho, eqXR, slX, addT, repT, inR, cmpO, heldR, appT, lrE, sortC, intC, intsD, slE, intO, cutD, eqXR, slX, addT, repT, compX, compDx, neYR, lrevE, tryMixS, mixH, suK, suR, suL, F_fraction, F_times, F_over, F_two, Rat.den_nz, nd, d1]
    refine ⟨z1, ⟨by (repeat' with_reducible apply And.intro) <;> try first | assumption | exact Sm.n (by assumption) | exact Sm.d (by assumption) | exact Si.mono (by assumption) (by decide) | exact dpos _ | exact Rat.nz _ | exact Rat.den_nz _, by (repeat' with_reducible apply And.intro) <;> try first | assumption | exact Sm.n (by assumption) | exact Sm.d (by assumption) | exact Si.mono (by assumption) (by decide) | exact dpos _ | exact Rat.nz _ | exact Rat.den_nz _, by (repeat' with_reducible apply And.intro) <;> try first | assumption | exact Sm.n (by assumption) | exact Sm.d (by assumption) | exact Si.mono (by assumption) (by decide) | exact dpos _ | exact Rat.nz _ | exact Rat.den_nz _, by (repeat' with_reducible apply And.intro) <;> try first | assumption | exact Sm.n (by assumption) | exact Sm.d (by assumption) | exact Si.mono (by assumption) (by decide) | exact dpos _ | exact Rat.nz _ | exact Rat.den_nz _⟩, ⟨by (repeat' with_reducible apply And.intro) <;> try first | assumption | exact Sm.n (by assumption) | exact Sm.d (by assumption) | exact Si.mono (by assumption) (by decide) | exact dpos _ | exact Rat.nz _ | exact Rat.den_nz _, by (repeat' with_reducible apply And.intro) <;> try first | assumption | exact Sm.n (by assumption) | exact Sm.d (by assumption) | exact Si.mono (by assumption) (by decide) | exact dpos _ | exact Rat.nz _ | exact Rat.den_nz _, by (repeat' with_reducible apply And.intro) <;> try first | assumption | exact Sm.n (by assumption) | exact Sm.d (by assumption) | exact Si.mono (by assumption) (by decide) | exact dpos _ | exact Rat.nz _ | exact Rat.den_nz _, by (repeat' with_reducible apply And.intro) <;> try first | assumption | exact Sm.n (by assumption) | exact Sm.d (by assumption) | exact Si.mono (by assumption) (by decide) | exact dpos _ | exact Rat.nz _ | exact Rat.den_nz _⟩, ?_⟩
    rw [if_neg (by grind)]
    exact h
theorem num_posR {q : Rat} (h : 0 < q) : 0 < q.num := by
  have h1 := Rat.num_nonneg (q := q)
  have h2 := Rat.num_eq_zero (q := q)
  have h3 : 0 ≤ q.num := h1.mpr (Rat.le_of_lt h)
  have h4 : q.num ≠ 0 := fun z => by have := h2.mp z; grind
  omega
theorem lc_pos {a b : Rat} (ha : 0 < a) (hb : 0 < b) : 0 < lcI a b ∧ lcI a b ≤ a.num * b.num ∧ (0 : Int) < (Int.gcd (a.den : Int) (b.den : Int) : Int) ∧ (Int.gcd (a.den : Int) (b.den : Int) : Int) ≤ b.den := by
  have h1 : 0 < a.num := num_posR ha
  have h2 : 0 < b.num := num_posR hb
  have g0 := gcd_pos (a := a.num) (b := b.num) (by omega)
  have gle : (Int.gcd a.num b.num : Int) ≤ b.num := by
    have h := Int.gcd_dvd_right (a := a.num) (b := b.num)
    exact Int.le_of_dvd h2 h
  have pp : 0 < a.num * b.num := Int.mul_pos h1 h2
  have d0 := den_pos b
  refine ⟨?_, ?_, gcd_pos (den_ne b), Int.le_of_dvd d0 (Int.gcd_dvd_right ..)⟩
  · unfold lcI
    refine Int.ediv_pos_of_pos_of_dvd pp (by omega) (Int.dvd_mul_of_dvd_left (Int.gcd_dvd_left ..))
  · unfold lcI
    exact Int.ediv_le_self _ (by omega)
theorem to_least_common : ∀ ss K E, F_least_common ss K E → defF [false, false] 3 sf_least_common ss K E := fun ss K E h => by
  obtain ⟨a, b, rfl, ⟨a0, b0, sa, sb⟩, h⟩ := h
  obtain ⟨p1, p2, p3, p4⟩ := lc_pos a0 b0
  have h1 : 0 < a.num := num_posR a0
  have h2 : 0 < b.num := num_posR b0
  have g0 := gcd_pos (a := a.num) (b := b.num) (by omega)
  have pp : 0 < a.num * b.num := Int.mul_pos h1 h2
  have da := den_pos a
  have db := den_pos b
  simp [sf_least_common, cE, vE, bE, rE, fE, mE, bin, nilA, consA, bT, andT, orT, notT, tupE, lstE, allV, allM, okB, intR, addR, asL, asT, asD, eqR, eqD_nn, eqD_bb, eqD_ii, eqD_ss, eqD_tt, eqD_ll, eqD_bi, eqD_ib, eqD_nt, eqD_tn, eqD_it, eqD_ti, eqD_ni, eqD_in, eqDs_nn, eqDs_cc, eqDs_nc, eqDs_cn, cmpD, cmpDs, depD, depDs, isNon, isNR, chainE, tvE, andV, orV, notV, ifE, slEV, ixR, callV, lenC, isiC, tyN, pick, retEV, callP, argD, argDs, seqS, bkS, ctS, exprS, retS, retNS, ifS, evSl, setS, SK.loop, gN, gNil, gCons, gT, asgS, parS, defF, defK, raiseS, absC, divmodC, mmC, stL, itL, itT, itR1, itR2, itE, shL, itZ, itV, forS, evD, methL, appL, clrL, popL, insL, trL, extL, setixS, argS, argSs, callI, callN, hereA, nextA, negE, itS, wipeR, compE, compD, yesT, seqD, listC, tupC, numd, zipd, nxS, frSl, retSl, retSls, retOk, retOks, tryAsS, tryOnlyS, lookB, kinE, xfE, lookF, frzE, isTR, isTB, allC, blsD, gU, raiseIS, at0, at1, at2, at3, lrE, sortC, intC, intsD, slE, intO, cutD, borS, borT, bkR, okRho, eqXR, slX, addT, repT, inR, cmpO, heldR, appT, lrE, sortC, intC, intsD, slE, intO, cutD, eqXR, slX, addT, repT, compX, compDx, neYR, lrevE, tryMixS, mixH, suK, suR, suL]
  refine ⟨MulOk.of sa.1 sb.1 (by decide), a.num, b.num, rfl, ⟨by omega, by omega, sa.1.mono (by decide), sb.1.mono (by decide)⟩, ?_⟩
  have fe : (a.num * b.num).fdiv (Int.gcd a.num b.num : Int) = lcI a b := Int.fdiv_eq_ediv_of_nonneg _ (by omega)
  simp [cE, vE, bE, rE, fE, mE, bin, nilA, consA, bT, andT, orT, notT, tupE, lstE, allV, allM, okB, intR, addR, asL, asT, asD, eqR, eqD_nn, eqD_bb, eqD_ii, eqD_ss, eqD_tt, eqD_ll, eqD_bi, eqD_ib, eqD_nt, eqD_tn, eqD_it, eqD_ti, eqD_ni, eqD_in, eqDs_nn, eqDs_cc, eqDs_nc, eqDs_cn, cmpD, cmpDs, depD, depDs, isNon, isNR, chainE, tvE, andV, orV, notV, ifE, slEV, ixR, callV, lenC, isiC, tyN, pick, retEV, callP, argD, argDs, seqS, bkS, ctS, exprS, retS, retNS, ifS, evSl, setS, SK.loop, gN, gNil, gCons, gT, asgS, parS, defF, defK, raiseS, absC, divmodC, mmC, stL, itL, itT, itR1, itR2, itE, shL, itZ, itV, forS, evD, methL, appL, clrL, popL, insL, trL, extL, setixS, argS, argSs, callI, callN, hereA, nextA, negE, itS, wipeR, compE, compD, yesT, seqD, listC, tupC, numd, zipd, nxS, frSl, retSl, retSls, retOk, retOks, tryAsS, tryOnlyS, lookB, kinE, xfE, lookF, frzE, isTR, isTB, allC, blsD, gU, raiseIS, at0, at1, at2, at3, lrE, sortC, intC, intsD, slE, intO, cutD, borS, borT, bkR, okRho, eqXR, slX, addT, repT, inR, cmpO, heldR, appT, lrE, sortC, intC, intsD, slE, intO, cutD, eqXR, slX, addT, repT, compX, compDx, neYR, lrevE, tryMixS, mixH, suK, suR, suL]
  refine ⟨divOk_of ((gcd_si (a := a.num) sb.1 (by omega)).mono (m := 4000) (by decide)) (by decide) (by omega), (a.den : Nat), (b.den : Nat), rfl, ⟨by omega, by omega, sa.2.mono (by decide), sb.2.mono (by decide)⟩, ?_⟩
  have gn : ¬ (Int.gcd (a.den : Int) (b.den : Int) : Int) = 0 := by omega
  rw [fe]
  simp [cE, vE, bE, rE, fE, mE, bin, nilA, consA, bT, andT, orT, notT, tupE, lstE, allV, allM, okB, intR, addR, asL, asT, asD, eqR, eqD_nn, eqD_bb, eqD_ii, eqD_ss, eqD_tt, eqD_ll, eqD_bi, eqD_ib, eqD_nt, eqD_tn, eqD_it, eqD_ti, eqD_ni, eqD_in, eqDs_nn, eqDs_cc, eqDs_nc, eqDs_cn, cmpD, cmpDs, depD, depDs, isNon, isNR, chainE, tvE, andV, orV, notV, ifE, slEV, ixR, callV, lenC, isiC, tyN, pick, retEV, callP, argD, argDs, seqS, bkS, ctS, exprS, retS, retNS, ifS, evSl, setS, SK.loop, gN, gNil, gCons, gT, asgS, parS, defF, defK, raiseS, absC, divmodC, mmC, stL, itL, itT, itR1, itR2, itE, shL, itZ, itV, forS, evD, methL, appL, clrL, popL, insL, trL, extL, setixS, argS, argSs, callI, callN, hereA, nextA, negE, itS, wipeR, compE, compD, yesT, seqD, listC, tupC, numd, zipd, nxS, frSl, retSl, retSls, retOk, retOks, tryAsS, tryOnlyS, lookB, kinE, xfE, lookF, frzE, isTR, isTB, allC, blsD, gU, raiseIS, at0, at1, at2, at3, lrE, sortC, intC, intsD, slE, intO, cutD, borS, borT, bkR, okRho, eqXR, slX, addT, repT, inR, cmpO, heldR, appT, lrE, sortC, intC, intsD, slE, intO, cutD, eqXR, slX, addT, repT, compX, compDx, neYR, lrevE, tryMixS, mixH, suK, suR, suL, F_fraction]
  rw [if_neg fun z => b.den_nz z.2]
  refine ⟨?_, h⟩
  have : Si 300 (Int.gcd (a.den : Int) (b.den : Int) : Int) := sb.2.of_le (by omega)
  exact this.mono (by decide)
structure TabOk (t : List (Rat × List Rat)) (T : Rat) : Prop where
  ok : ∀ x ∈ t, Sm 90 x.1 ∧ 0 < x.1 ∧ 1 ≤ x.2.length ∧ ∀ y ∈ x.2, Sm 300 y ∧ 0 ≤ y ∧ y < T
theorem gr_pos {u : Rat} (h : ¬ u = 0) : 0 < gr u := by
  unfold gr
  split <;> grind
theorem add_ok {T s x : Rat} (s1 : Sm 90 s) (s2 : 0 < s) (x1 : Sm 300 x) (x2 : 0 ≤ x ∧ x < T) : ∀ {t : List (Rat × List Rat)}, TabOk t T → TabOk (addP t s x) T
  | [], _ => ⟨fun y hy => by
    have : y = (s, [x]) := by simpa [addP] using hy
    subst this
    exact ⟨s1, s2, by simp, fun z hz => by
      have : z = x := by simpa using hz
      subst this
      exact ⟨x1, x2⟩⟩⟩
  | (t0, xs) :: r, h => by
    have ih := add_ok s1 s2 x1 x2 (t := r) ⟨fun y hy => h.ok y (List.mem_cons_of_mem _ hy)⟩
    have h0 := h.ok _ List.mem_cons_self
    by_cases c : t0 = s
    · rw [addP, if_pos c]
      refine ⟨fun y hy => ?_⟩
      rcases List.mem_cons.mp hy with rfl | hy
      · refine ⟨h0.1, h0.2.1, by simp, fun z hz => ?_⟩
        rcases List.mem_append.mp hz with hz | hz
        · exact h0.2.2.2 z hz
        · have : z = x := by simpa using hz
          subst this
          exact ⟨x1, x2⟩
      · exact h.ok y (List.mem_cons_of_mem _ hy)
    · rw [addP, if_neg c]
      refine ⟨fun y hy => ?_⟩
      rcases List.mem_cons.mp hy with rfl | hy
      · exact h0
      · exact ih.ok y hy
theorem tab_ok {L : Rat} (sl : Sm 90 L) : ∀ (bs : List Bw) (t : List (Rat × List Rat)), (∀ b ∈ bs, (Sm 90 b.p ∧ Sm 90 b.u) ∧ 0 < b.p ∧ b.p < L) → TabOk t (L + L) → TabOk (bs.foldl (fun t b => if b.u = 0 then t else addP t (gr b.u) (phR b L)) t) (L + L)
  | [], _, _, h => h
  | b :: bs, t, hb, h => by
    obtain ⟨⟨s1, s2⟩, b1, b2⟩ := hb b List.mem_cons_self
    refine tab_ok sl bs _ (fun c hc => hb c (List.mem_cons_of_mem _ hc)) ?_
    show TabOk (if b.u = 0 then t else addP t (gr b.u) (phR b L)) (L + L)
    split
    · exact h
    · rename_i c
      refine add_ok (gr_sm s2) (gr_pos c) ?_ ?_ h
      · unfold phR
        split
        · exact ((sl.add sl).sub s1).mono (by decide)
        · exact s1.mono (by decide)
      · unfold phR
        split <;> grind
theorem div_posR {x y : Rat} (hx : 0 < x) (hy : 0 < y) : 0 < x / y := Rat.not_le.mp fun z => by
  have h := Rat.mul_le_mul_of_nonneg_right z (Rat.le_of_lt hy)
  have e : x / y * y = x := by grind
  rw [e, Rat.zero_mul] at h
  grind
theorem rb_ok {xs : List Rat} {T s : Rat} (T0 : 0 < T) (sT : Sm 190 T) (s0 : 0 < s) (ss : Sm 90 s) (l1 : 1 ≤ xs.length) (l2 : xs.length ≤ 12) (hx : ∀ x ∈ xs, 0 ≤ x ∧ x < T) : 0 < rbQ xs T s ∧ Sm 300 (rbQ xs T s) := by
  obtain ⟨p1, p2⟩ := pt_le T0 hx xs.length
  have p3 := p2 l1
  have kp : (0 : Rat) < (((ptQ xs T xs.length : Nat) : Int) : Rat) := by exact_mod_cast (by omega : (0 : Int) < ((ptQ xs T xs.length : Nat) : Int))
  have mp := Rat.mul_pos s0 kp
  have sk : Si 10 ((ptQ xs T xs.length : Nat) : Int) := by unfold Si; omega
  unfold rbQ
  exact ⟨div_posR T0 mp, (sT.quo (ss.mul (Sm.int sk)) (by grind)).mono (by decide)⟩
theorem lcQ_ok {a b : Rat} {n : Nat} (ha : 0 < a) (hb : 0 < b) (sa : Sm n a) (sb : Sm 300 b) : 0 < lcQ a b ∧ Sm (n + 300) (lcQ a b) := by
  obtain ⟨p1, p2, p3, p4⟩ := lc_pos ha hb
  have x : (0 : Rat) < ((lcI a b : Int) : Rat) := by exact_mod_cast p1
  have y : (0 : Rat) < ((Int.gcd (a.den : Int) (b.den : Int) : Int) : Rat) := by exact_mod_cast p3
  unfold lcQ
  refine ⟨?_, ?_⟩
  · exact div_posR x y
  · have h1 : Si (n + 300) (lcI a b) := (sa.1.mul sb.1).of_le (by omega)
    have h2 : Si (n + 300) (Int.gcd (a.den : Int) (b.den : Int) : Int) := (sb.2.of_le (by omega)).mono (by omega)
    exact (Sm.div h1 h2 (by omega)).mono (by omega)
theorem rd_take (t : List (Rat × List Rat)) (T : Rat) (j : Nat) {x : Rat × List Rat} (h : t[j]? = some x) : rdW (t.take (j + 1)) T = rdF T (rdW (t.take j) T) x := by
  unfold rdW
  rw [List.take_add_one, h]
  simp [List.foldl_append]
theorem le_sumP : ∀ (t : List (Rat × List Rat)) (x : Rat × List Rat), x ∈ t → x.2.length ≤ (t.map fun x => x.2.length).sum
  | y :: t, x, h => by
    rw [List.map_cons, List.sum_cons]
    rcases List.mem_cons.mp h with rfl | h
    · omega
    · have := le_sumP t x h; omega
theorem rd_ok {T : Rat} (T0 : 0 < T) (sT : Sm 190 T) {t : List (Rat × List Rat)} (ok : TabOk t T) (hl : (t.map fun x => x.2.length).sum ≤ 12) : ∀ j, j ≤ t.length → ∀ q, rdW (t.take j) T = some q → 0 < q ∧ Sm (300 * j) q
  | 0, _, q, e => by cases e
  | j + 1, hj, q, e => by
    have hx : t[j]? = some t[j] := List.getElem?_eq_getElem (by omega)
    rw [rd_take t T j hx] at e
    obtain ⟨o1, o2, o3, o4⟩ := ok.ok _ (List.getElem_mem (by omega : j < t.length))
    have l2 : (t[j]).2.length ≤ 12 := Nat.le_trans (le_sumP t _ (List.getElem_mem (by omega : j < t.length))) hl
    obtain ⟨r1, r2⟩ := rb_ok T0 sT o2 o1 o3 l2 fun x hx => (o4 x hx).2
    unfold rdF at e
    cases e
    cases e2 : rdW (t.take j) T with
    | none =>
      exact ⟨r1, r2.mono (by omega)⟩
    | some q' =>
      obtain ⟨q1, q2⟩ := rd_ok T0 sT ok hl j (by omega) q' e2
      obtain ⟨w1, w2⟩ := lcQ_ok q1 r1 q2 r2
      exact ⟨w1, w2.mono (by omega)⟩
theorem to_round_of : ∀ ss K E, F_round_of ss K E → defF [false, false] 7 sf_round_of ss K E := fun ss K E h => by
  obtain ⟨st, bs, L, rfl, rs, h⟩ := h
  have hl := rs.le
  simp [sf_round_of, cE, vE, bE, rE, fE, mE, bin, nilA, consA, bT, andT, orT, notT, tupE, lstE, allV, allM, okB, intR, addR, asL, asT, asD, eqR, eqD_nn, eqD_bb, eqD_ii, eqD_ss, eqD_tt, eqD_ll, eqD_bi, eqD_ib, eqD_nt, eqD_tn, eqD_it, eqD_ti, eqD_ni, eqD_in, eqDs_nn, eqDs_cc, eqDs_nc, eqDs_cn, cmpD, cmpDs, depD, depDs, isNon, isNR, chainE, tvE, andV, orV, notV, ifE, slEV, ixR, callV, lenC, isiC, tyN, pick, retEV, callP, argD, argDs, seqS, bkS, ctS, exprS, retS, retNS, ifS, evSl, setS, SK.loop, gN, gNil, gCons, gT, asgS, parS, defF, defK, raiseS, absC, divmodC, mmC, stL, itL, itT, itR1, itR2, itE, shL, itZ, itV, forS, evD, methL, appL, clrL, popL, insL, trL, extL, setixS, argS, argSs, callI, callN, hereA, nextA, negE, itS, wipeR, compE, compD, yesT, seqD, listC, tupC, numd, zipd, nxS, frSl, retSl, retSls, retOk, retOks, tryAsS, tryOnlyS, lookB, kinE, xfE, lookF, frzE, isTR, isTB, allC, blsD, gU, raiseIS, at0, at1, at2, at3, lrE, sortC, intC, intsD, slE, intO, cutD, borS, borT, bkR, okRho, eqXR, slX, addT, repT, inR, cmpO, heldR, appT, lrE, sortC, intC, intsD, slE, intO, cutD, eqXR, slX, addT, repT, compX, compDx, neYR, lrevE, tryMixS, mixH, suK, suR, suL]
  refine ⟨st, bs, rfl, by omega, ?_⟩
  cases eo : odd bs with
  | some k =>
    rw [eo] at h
    unfold odd at eo
    rw [eo]
    exact ⟨rfl, h⟩
  | none =>
    rw [eo] at h
    unfold odd at eo
    rw [eo]
    dsimp only at h ⊢
    refine ⟨st, bs, L, rfl, ⟨by omega, rs.sl.mono (by decide), fun b hb => (rs.sz b hb).1.mono (by decide)⟩, ?_⟩
    cases ew : out bs L with
    | some k =>
      rw [ew] at h
      exact ⟨rfl, h⟩
    | none =>
      rw [ew] at h
      dsimp only at h ⊢
      have sl := rs.sl
      have sT := sl.add sl
      simp [cE, vE, bE, rE, fE, mE, bin, nilA, consA, bT, andT, orT, notT, tupE, lstE, allV, allM, okB, intR, addR, asL, asT, asD, eqR, eqD_nn, eqD_bb, eqD_ii, eqD_ss, eqD_tt, eqD_ll, eqD_bi, eqD_ib, eqD_nt, eqD_tn, eqD_it, eqD_ti, eqD_ni, eqD_in, eqDs_nn, eqDs_cc, eqDs_nc, eqDs_cn, cmpD, cmpDs, depD, depDs, isNon, isNR, chainE, tvE, andV, orV, notV, ifE, slEV, ixR, callV, lenC, isiC, tyN, pick, retEV, callP, argD, argDs, seqS, bkS, ctS, exprS, retS, retNS, ifS, evSl, setS, SK.loop, gN, gNil, gCons, gT, asgS, parS, defF, defK, raiseS, absC, divmodC, mmC, stL, itL, itT, itR1, itR2, itE, shL, itZ, itV, forS, evD, methL, appL, clrL, popL, insL, trL, extL, setixS, argS, argSs, callI, callN, hereA, nextA, negE, itS, wipeR, compE, compD, yesT, seqD, listC, tupC, numd, zipd, nxS, frSl, retSl, retSls, retOk, retOks, tryAsS, tryOnlyS, lookB, kinE, xfE, lookF, frzE, isTR, isTB, allC, blsD, gU, raiseIS, at0, at1, at2, at3, lrE, sortC, intC, intsD, slE, intO, cutD, borS, borT, bkR, okRho, eqXR, slX, addT, repT, inR, cmpO, heldR, appT, lrE, sortC, intC, intsD, slE, intO, cutD, eqXR, slX, addT, repT, compX, compDx, neYR, lrevE, tryMixS, mixH, suK, suR, suL, F_plus, F_two, Rat.den_nz, nd, itDt]
      refine ⟨by (repeat' with_reducible apply And.intro) <;> try first | assumption | exact Sm.n (by assumption) | exact Sm.d (by assumption) | exact Si.mono (by assumption) (by decide) | exact dpos _ | exact Rat.nz _ | exact Rat.den_nz _, st, bs, L, rfl, rs, ?_⟩
      simp [tabS, frSls_tab]
      have zt := zip_tab (tabW bs L)
      rw [List.map_map] at zt
      rw [zt]
      have tok : TabOk (tabW bs L) (L + L) := tab_ok sl bs [] (fun b hb => ⟨rs.sz b hb, out_none ew b hb⟩) ⟨fun x hx => absurd hx (by simp)⟩
      have tl := tab_le bs L
      refine loop_inv (fun j ρ => ∃ x4 x5 x6, ρ = [.v (.lst st (bs.map wD)), .v (frD L), .v (frD (L + L)), .v (rdD (rdW ((tabW bs L).take j) (L + L))), x4, x5, x6]) ⟨_, _, _, rfl⟩ ?_ ?_
      · rintro j e ρ K2 he ⟨x4, x5, x6, rfl⟩ next
        rw [List.getElem?_map] at he
        obtain ⟨x, hx, rfl⟩ := Option.map_eq_some_iff.mp he
        obtain ⟨o1, o2, o3, o4⟩ := tok.ok x (List.mem_of_getElem? hx)
        have l2 : x.2.length ≤ 12 := by have := le_sumP _ x (List.mem_of_getElem? hx); omega
        have lj := (List.getElem?_eq_some_iff.mp hx).1
        have T0 : 0 < L + L := by
          obtain ⟨_, g1, g2⟩ := o4 _ (List.getElem_mem (by omega : 0 < x.2.length))
          grind
        have nx := next [.v (.lst st (bs.map wD)), .v (frD L), .v (frD (L + L)), .v (rdD (rdW ((tabW bs L).take (j + 1)) (L + L))), .v (frD x.1), .v (.lst true (x.2.map frD)), .v (frD (rbQ x.2 (L + L) x.1))] ⟨_, _, _, rfl⟩
        rw [rd_take _ _ _ hx] at nx
        simp [cE, vE, bE, rE, fE, mE, bin, nilA, consA, bT, andT, orT, notT, tupE, lstE, allV, allM, okB, intR, addR, asL, asT, asD, eqR, eqD_nn, eqD_bb, eqD_ii, eqD_ss, eqD_tt, eqD_ll, eqD_bi, eqD_ib, eqD_nt, eqD_tn, eqD_it, eqD_ti, eqD_ni, eqD_in, eqDs_nn, eqDs_cc, eqDs_nc, eqDs_cn, cmpD, cmpDs, depD, depDs, isNon, isNR, chainE, tvE, andV, orV, notV, ifE, slEV, ixR, callV, lenC, isiC, tyN, pick, retEV, callP, argD, argDs, seqS, bkS, ctS, exprS, retS, retNS, ifS, evSl, setS, SK.loop, gN, gNil, gCons, gT, asgS, parS, defF, defK, raiseS, absC, divmodC, mmC, stL, itL, itT, itR1, itR2, itE, shL, itZ, itV, forS, evD, methL, appL, clrL, popL, insL, trL, extL, setixS, argS, argSs, callI, callN, hereA, nextA, negE, itS, wipeR, compE, compD, yesT, seqD, listC, tupC, numd, zipd, nxS, frSl, retSl, retSls, retOk, retOks, tryAsS, tryOnlyS, lookB, kinE, xfE, lookF, frzE, isTR, isTB, allC, blsD, gU, raiseIS, at0, at1, at2, at3, lrE, sortC, intC, intsD, slE, intO, cutD, borS, borT, bkR, okRho, eqXR, slX, addT, repT, inR, cmpO, heldR, appT, lrE, sortC, intC, intsD, slE, intO, cutD, eqXR, slX, addT, repT, compX, compDx, neYR, lrevE, tryMixS, mixH, suK, suR, suL]
        refine ⟨true, x.2, L + L, x.1, rfl, ⟨⟨l2, fun y hy => (o4 y hy).1, sT.mono (by decide), T0⟩, o3, fun y hy => (o4 y hy).2, o1, o2⟩, ?_⟩
        obtain ⟨r1, r2⟩ := rb_ok T0 (sT.mono (by decide)) o2 o1 o3 l2 fun y hy => (o4 y hy).2
        cases e2 : rdW ((tabW bs L).take j) (L + L) with
        | none =>
          rw [e2] at nx
          simp [cE, vE, bE, rE, fE, mE, bin, nilA, consA, bT, andT, orT, notT, tupE, lstE, allV, allM, okB, intR, addR, asL, asT, asD, eqR, eqD_nn, eqD_bb, eqD_ii, eqD_ss, eqD_tt, eqD_ll, eqD_bi, eqD_ib, eqD_nt, eqD_tn, eqD_it, eqD_ti, eqD_ni, eqD_in, eqDs_nn, eqDs_cc, eqDs_nc, eqDs_cn, cmpD, cmpDs, depD, depDs, isNon, isNR, chainE, tvE, andV, orV, notV, ifE, slEV, ixR, callV, lenC, isiC, tyN, pick, retEV, callP, argD, argDs, seqS, bkS, ctS, exprS, retS, retNS, ifS, evSl, setS, SK.loop, gN, gNil, gCons, gT, asgS, parS, defF, defK, raiseS, absC, divmodC, mmC, stL, itL, itT, itR1, itR2, itE, shL, itZ, itV, forS, evD, methL, appL, clrL, popL, insL, trL, extL, setixS, argS, argSs, callI, callN, hereA, nextA, negE, itS, wipeR, compE, compD, yesT, seqD, listC, tupC, numd, zipd, nxS, frSl, retSl, retSls, retOk, retOks, tryAsS, tryOnlyS, lookB, kinE, xfE, lookF, frzE, isTR, isTB, allC, blsD, gU, raiseIS, at0, at1, at2, at3, lrE, sortC, intC, intsD, slE, intO, cutD, borS, borT, bkR, okRho, eqXR, slX, addT, repT, inR, cmpO, heldR, appT, lrE, sortC, intC, intsD, slE, intO, cutD, eqXR, slX, addT, repT, compX, compDx, neYR, lrevE, tryMixS, mixH, suK, suR, suL, rdD]
          exact nx
        | some q =>
          rw [e2] at nx
          obtain ⟨q1, q2⟩ := rd_ok T0 (sT.mono (by decide)) tok (by omega) j (by omega) q e2
          simp [cE, vE, bE, rE, fE, mE, bin, nilA, consA, bT, andT, orT, notT, tupE, lstE, allV, allM, okB, intR, addR, asL, asT, asD, eqR, eqD_nn, eqD_bb, eqD_ii, eqD_ss, eqD_tt, eqD_ll, eqD_bi, eqD_ib, eqD_nt, eqD_tn, eqD_it, eqD_ti, eqD_ni, eqD_in, eqDs_nn, eqDs_cc, eqDs_nc, eqDs_cn, cmpD, cmpDs, depD, depDs, isNon, isNR, chainE, tvE, andV, orV, notV, ifE, slEV, ixR, callV, lenC, isiC, tyN, pick, retEV, callP, argD, argDs, seqS, bkS, ctS, exprS, retS, retNS, ifS, evSl, setS, SK.loop, gN, gNil, gCons, gT, asgS, parS, defF, defK, raiseS, absC, divmodC, mmC, stL, itL, itT, itR1, itR2, itE, shL, itZ, itV, forS, evD, methL, appL, clrL, popL, insL, trL, extL, setixS, argS, argSs, callI, callN, hereA, nextA, negE, itS, wipeR, compE, compD, yesT, seqD, listC, tupC, numd, zipd, nxS, frSl, retSl, retSls, retOk, retOks, tryAsS, tryOnlyS, lookB, kinE, xfE, lookF, frzE, isTR, isTB, allC, blsD, gU, raiseIS, at0, at1, at2, at3, lrE, sortC, intC, intsD, slE, intO, cutD, borS, borT, bkR, okRho, eqXR, slX, addT, repT, inR, cmpO, heldR, appT, lrE, sortC, intC, intsD, slE, intO, cutD, eqXR, slX, addT, repT, compX, compDx, neYR, lrevE, tryMixS, mixH, suK, suR, suL, rdD]
          refine ⟨q, rbQ x.2 (L + L) x.1, rfl, ⟨q1, r1, q2.mono (by omega), r2⟩, ?_⟩
          simp [cE, vE, bE, rE, fE, mE, bin, nilA, consA, bT, andT, orT, notT, tupE, lstE, allV, allM, okB, intR, addR, asL, asT, asD, eqR, eqD_nn, eqD_bb, eqD_ii, eqD_ss, eqD_tt, eqD_ll, eqD_bi, eqD_ib, eqD_nt, eqD_tn, eqD_it, eqD_ti, eqD_ni, eqD_in, eqDs_nn, eqDs_cc, eqDs_nc, eqDs_cn, cmpD, cmpDs, depD, depDs, isNon, isNR, chainE, tvE, andV, orV, notV, ifE, slEV, ixR, callV, lenC, isiC, tyN, pick, retEV, callP, argD, argDs, seqS, bkS, ctS, exprS, retS, retNS, ifS, evSl, setS, SK.loop, gN, gNil, gCons, gT, asgS, parS, defF, defK, raiseS, absC, divmodC, mmC, stL, itL, itT, itR1, itR2, itE, shL, itZ, itV, forS, evD, methL, appL, clrL, popL, insL, trL, extL, setixS, argS, argSs, callI, callN, hereA, nextA, negE, itS, wipeR, compE, compD, yesT, seqD, listC, tupC, numd, zipd, nxS, frSl, retSl, retSls, retOk, retOks, tryAsS, tryOnlyS, lookB, kinE, xfE, lookF, frzE, isTR, isTB, allC, blsD, gU, raiseIS, at0, at1, at2, at3, lrE, sortC, intC, intsD, slE, intO, cutD, borS, borT, bkR, okRho, eqXR, slX, addT, repT, inR, cmpO, heldR, appT, lrE, sortC, intC, intsD, slE, intO, cutD, eqXR, slX, addT, repT, compX, compDx, neYR, lrevE, tryMixS, mixH, suK, suR, suL]
          exact nx
      · rintro ρ ⟨x4, x5, x6, rfl⟩
        rw [List.length_map, List.take_length]
        have hr : retOk (rdD (rdW (tabW bs L) (L + L))) = true := by cases rdW (tabW bs L) (L + L) <;> rfl
        simp [cE, vE, bE, rE, fE, mE, bin, nilA, consA, bT, andT, orT, notT, tupE, lstE, allV, allM, okB, intR, addR, asL, asT, asD, eqR, eqD_nn, eqD_bb, eqD_ii, eqD_ss, eqD_tt, eqD_ll, eqD_bi, eqD_ib, eqD_nt, eqD_tn, eqD_it, eqD_ti, eqD_ni, eqD_in, eqDs_nn, eqDs_cc, eqDs_nc, eqDs_cn, cmpD, cmpDs, depD, depDs, isNon, isNR, chainE, tvE, andV, orV, notV, ifE, slEV, ixR, callV, lenC, isiC, tyN, pick, retEV, callP, argD, argDs, seqS, bkS, ctS, exprS, retS, retNS, ifS, evSl, setS, SK.loop, gN, gNil, gCons, gT, asgS, parS, defF, defK, raiseS, absC, divmodC, mmC, stL, itL, itT, itR1, itR2, itE, shL, itZ, itV, forS, evD, methL, appL, clrL, popL, insL, trL, extL, setixS, argS, argSs, callI, callN, hereA, nextA, negE, itS, wipeR, compE, compD, yesT, seqD, listC, tupC, numd, zipd, nxS, frSl, retSl, retSls, retOk, retOks, tryAsS, tryOnlyS, lookB, kinE, xfE, lookF, frzE, isTR, isTB, allC, blsD, gU, raiseIS, at0, at1, at2, at3, lrE, sortC, intC, intsD, slE, intO, cutD, borS, borT, bkR, okRho, eqXR, slX, addT, repT, inR, cmpO, heldR, appT, lrE, sortC, intC, intsD, slE, intO, cutD, eqXR, slX, addT, repT, compX, compDx, neYR, lrevE, tryMixS, mixH, suK, suR, suL, hr]
        exact h
end VS
set_option Elab.async false
set_option linter.all false
set_option maxRecDepth 100000
set_option maxHeartbeats 4000000
/-! VM158: the round, plain: what leads phases back is the multiples of one time. Own work. -/
namespace VS
open PySem PySem.Spec PyProof.Rows
theorem nQ (n : Nat) : (((n : Nat) : Int) : Rat) = (n : Rat) := by first | rfl | exact Rat.intCast_natCast n | exact_mod_cast rfl
theorem ngQ (n : Int) : ((-n : Int) : Rat) = -(n : Rat) := by first | exact Rat.intCast_neg n | simp
/-! ### ways of a group with 1 -/
structure Hs (P : Rat → Prop) : Prop where
  add : ∀ y z, P y → P z → P (y + z)
  neg : ∀ y, P y → P (-y)
  one : P 1
section
variable {P : Rat → Prop} (H : Hs P)
include H
theorem Hs.zero : P 0 := by
  have := H.add _ _ H.one (H.neg _ H.one)
  have e : (1 : Rat) + -1 = 0 := by grind
  rwa [e] at this
theorem Hs.nat {y : Rat} (h : P y) : ∀ n : Nat, P ((n : Rat) * y)
  | 0 => by
    have e : ((0 : Nat) : Rat) * y = 0 := by simp
    rw [e]; exact H.zero
  | n + 1 => by
    have := H.add _ _ (Hs.nat h n) h
    have e : ((n + 1 : Nat) : Rat) * y = (n : Rat) * y + y := by
      have : ((n + 1 : Nat) : Rat) = (n : Rat) + 1 := by simp
      rw [this]; grind
    rwa [e]
theorem Hs.int {y : Rat} (h : P y) (m : Int) : P ((m : Rat) * y) := by
  rcases Int.eq_nat_or_neg m with ⟨n, rfl | rfl⟩
  · have := H.nat h n
    rwa [nQ]
  · have := H.neg _ (H.nat h n)
    have e : ((-((n : Nat) : Int) : Int) : Rat) * y = -((n : Rat) * y) := by
      rw [ngQ, nQ]; grind
    rwa [e]
theorem Hs.gcd {e : Rat} : ∀ m n : Nat, P ((m : Rat) * e) → P ((n : Rat) * e) → P ((Nat.gcd m n : Nat) * e) := fun m n => by
  induction m, n using Nat.gcd.induction with
  | H0 n => intro _ h; rw [Nat.gcd_zero_left]; exact h
  | H1 m n hm ih =>
    intro h1 h2
    rw [Nat.gcd_rec]
    refine ih ?_ h1
    have h3 := H.add _ _ h2 (H.neg _ (H.nat h1 (n / m)))
    have e1 : ((n % m : Nat) : Rat) = (n : Rat) - ((n / m : Nat) : Rat) * (m : Rat) := by
      have := Nat.div_add_mod n m
      have e2 : ((n : Nat) : Rat) = ((m * (n / m) + n % m : Nat) : Rat) := by rw [this]
      rw [e2]
      have e3 : ((m * (n / m) + n % m : Nat) : Rat) = (m : Rat) * ((n / m : Nat) : Rat) + ((n % m : Nat) : Rat) := by
        rw [Rat.natCast_add, Rat.natCast_mul]
      rw [e3]; grind
    have e4 : ((n % m : Nat) : Rat) * e = (n : Rat) * e + -(((n / m : Nat) : Rat) * ((m : Rat) * e)) := by rw [e1]; grind
    rwa [e4]
theorem Hs.inv {y : Rat} (h : P y) : P (1 / (y.den : Rat)) := by
  have d0 : ((y.den : Nat) : Rat) ≠ 0 := by exact_mod_cast y.den_nz
  have ey : y = (y.num : Rat) / (y.den : Rat) := by
    have h := num_eq y
    rw [nQ] at h
    grind
  have hn : P ((y.num.natAbs : Nat) * (1 / (y.den : Rat))) := by
    rcases Int.natAbs_eq y.num with e | e
    · have e2 : (y.num : Rat) = ((y.num.natAbs : Nat) : Rat) := by
        rw [← nQ, ← e]
      have e3 : ((y.num.natAbs : Nat) : Rat) * (1 / (y.den : Rat)) = y := by rw [← e2]; grind
      rwa [e3]
    · have e2 : (y.num : Rat) = -((y.num.natAbs : Nat) : Rat) := by
        rw [← nQ, ← ngQ, ← e]
      have e3 : ((y.num.natAbs : Nat) : Rat) * (1 / (y.den : Rat)) = -y := by grind
      rw [e3]; exact H.neg _ h
  have hd : P (((y.den : Nat) : Rat) * (1 / (y.den : Rat))) := by
    have e : ((y.den : Nat) : Rat) * (1 / (y.den : Rat)) = 1 := by grind
    rw [e]; exact H.one
  have := H.gcd _ _ hn hd
  have g : Nat.gcd y.num.natAbs y.den = 1 := y.reduced
  rw [g] at this
  simpa using this
theorem Hs.lcm {b k : Nat} (hb : 0 < b) (hk : 0 < k) (h1 : P (1 / (b : Rat))) (h2 : P (1 / (k : Rat))) : P (1 / ((Nat.lcm b k : Nat) : Rat)) := by
  have b0 : ((b : Nat) : Rat) ≠ 0 := by exact_mod_cast (by omega : b ≠ 0)
  have k0 : ((k : Nat) : Rat) ≠ 0 := by exact_mod_cast (by omega : k ≠ 0)
  have g1 : P (((k : Nat) : Rat) * (1 / ((b : Rat) * (k : Rat)))) := by
    have e : ((k : Nat) : Rat) * (1 / ((b : Rat) * (k : Rat))) = 1 / (b : Rat) := by grind
    rwa [e]
  have g2 : P (((b : Nat) : Rat) * (1 / ((b : Rat) * (k : Rat)))) := by
    have e : ((b : Nat) : Rat) * (1 / ((b : Rat) * (k : Rat))) = 1 / (k : Rat) := by grind
    rwa [e]
  have g := H.gcd _ _ g2 g1
  have l0 : 0 < Nat.lcm b k := Nat.lcm_pos hb hk
  have l0' : ((Nat.lcm b k : Nat) : Rat) ≠ 0 := by exact_mod_cast (by omega : Nat.lcm b k ≠ 0)
  have q : ((Nat.gcd b k : Nat) : Rat) * ((Nat.lcm b k : Nat) : Rat) = (b : Rat) * (k : Rat) := by
    rw [← Rat.natCast_mul, ← Rat.natCast_mul, Nat.gcd_mul_lcm]
  have e : ((Nat.gcd b k : Nat) : Rat) * (1 / ((b : Rat) * (k : Rat))) = 1 / ((Nat.lcm b k : Nat) : Rat) := by grind
  rwa [e] at g
/-- the greatest part there is gives all -/
theorem Hs.all {n k : Nat} (hn : ∀ b : Nat, 0 < b → P (1 / (b : Rat)) → b ≤ n) (k0 : 0 < k) (hk : P (1 / (k : Rat))) (hm : ∀ j : Nat, k < j → j ≤ n → ¬ P (1 / (j : Rat))) (y : Rat) : P y ↔ ∃ m : Int, y = (m : Rat) / (k : Rat) := by
  have k0' : ((k : Nat) : Rat) ≠ 0 := by exact_mod_cast (by omega : k ≠ 0)
  constructor
  · intro h
    have hi := H.inv h
    have d0 : 0 < y.den := y.den_pos
    have hl := H.lcm d0 k0 hi hk
    have l0 : 0 < Nat.lcm y.den k := Nat.lcm_pos d0 k0
    have ln := hn _ l0 hl
    have kl : k ≤ Nat.lcm y.den k := Nat.le_of_dvd l0 (Nat.dvd_lcm_right ..)
    have el : Nat.lcm y.den k = k := by
      refine Nat.le_antisymm (Nat.not_lt.mp fun z => hm _ z ln hl) kl
    have dv : y.den ∣ k := el ▸ Nat.dvd_lcm_left y.den k
    obtain ⟨c, hc⟩ := dv
    refine ⟨y.num * (c : Nat), ?_⟩
    have ey := num_eq y
    rw [nQ] at ey
    have d0' : ((y.den : Nat) : Rat) ≠ 0 := by exact_mod_cast y.den_nz
    have ek : ((k : Nat) : Rat) = (y.den : Rat) * (c : Rat) := by rw [hc, Rat.natCast_mul]
    have em : ((y.num * ((c : Nat) : Int) : Int) : Rat) = (y.num : Rat) * (c : Rat) := by
      rw [Rat.intCast_mul, nQ]
    rw [em]
    grind
  · rintro ⟨m, rfl⟩
    have := H.int hk m
    have e : (m : Rat) * (1 / (k : Rat)) = (m : Rat) / (k : Rat) := by grind
    rwa [e] at this
end
/-! ### phases led on -/
theorem rst_eq {x r T : Rat} {m : Int} (T0 : 0 < T) (h0 : 0 ≤ r) (h1 : r < T) (e : x = r + (m : Rat) * T) : rst x T = r := by
  have tn : T ≠ 0 := by grind
  have e2 : x / T = r / T + (m : Rat) := by grind
  have er : r / T * T = r := by grind
  have q0 : 0 ≤ r / T := Rat.not_lt.mp fun z => by
    have := Rat.mul_lt_mul_of_pos_right z T0
    grind
  have q1 : r / T < 1 := Rat.not_le.mp fun z => by
    have := Rat.mul_le_mul_of_nonneg_right z (Rat.le_of_lt T0)
    grind
  have ef : fl (x / T) = m := fl_in (by rw [e2]; grind) (by rw [e2]; grind)
  unfold rst
  rw [ef]
  grind
theorem rst_add {x T : Rat} (T0 : 0 < T) (m : Int) : rst (x + (m : Rat) * T) T = rst x T := by
  obtain ⟨b1, b2⟩ := rst_b (x := x) T0
  refine rst_eq (m := fl (x / T) + m) T0 b1 b2 ?_
  have e : ((fl (x / T) + m : Int) : Rat) = (fl (x / T) : Rat) + (m : Rat) := Rat.intCast_add ..
  rw [e]
  unfold rst
  grind
theorem rst_rst {x z T : Rat} (T0 : 0 < T) : rst (rst x T + z) T = rst (x + z) T := by
  have := rst_add (x := x + z) T0 (-(fl (x / T)))
  rw [← this]
  congr 1
  rw [ngQ]
  unfold rst
  grind
theorem rst_id {x T : Rat} (T0 : 0 < T) (h0 : 0 ≤ x) (h1 : x < T) : rst x T = x := rst_eq (m := 0) T0 h0 h1 (by simp [Rat.add_zero])
/-- led on by so many rounds the phases are as they are -/
def PhA (xs : List Rat) (T y : Rat) : Prop := ∀ x ∈ xs, rst (x + y * T) T ∈ xs
theorem pha_hs {xs : List Rat} {T : Rat} (T0 : 0 < T) (hx : ∀ x ∈ xs, 0 ≤ x ∧ x < T) : Hs (PhA xs T) := by
  have add : ∀ y z, PhA xs T y → PhA xs T z → PhA xs T (y + z) := fun y z h1 h2 x hm => by
    have := h2 _ (h1 x hm)
    rw [rst_rst T0] at this
    have e : x + (y + z) * T = x + y * T + z * T := by grind
    rwa [e]
  have one : PhA xs T 1 := fun x hm => by
    have e : x + 1 * T = x + T := by grind
    rw [e, rst_round T0 (hx x hm).1 (hx x hm).2]
    exact hm
  have zero : PhA xs T 0 := fun x hm => by
    have e : x + 0 * T = x := by grind
    rw [e, rst_id T0 (hx x hm).1 (hx x hm).2]
    exact hm
  have nat : ∀ y, PhA xs T y → ∀ n : Nat, PhA xs T ((n : Rat) * y) := fun y h n => by
    induction n with
    | zero =>
      have e : ((0 : Nat) : Rat) * y = 0 := by simp
      rw [e]; exact zero
    | succ n ih =>
      have := add _ _ ih h
      have e : ((n + 1 : Nat) : Rat) * y = (n : Rat) * y + y := by
        have : ((n + 1 : Nat) : Rat) = (n : Rat) + 1 := by simp
        rw [this]; grind
      rwa [e]
  refine ⟨add, fun y h x hm => ?_, one⟩
  have h1 := nat y h (y.den - 1) x hm
  have d0 : 0 < y.den := y.den_pos
  have e0 : (((y.den - 1 : Nat)) : Rat) = (y.den : Rat) - 1 := by
    have : ((y.den : Nat) : Rat) = ((y.den - 1 + 1 : Nat) : Rat) := by congr 1; omega
    rw [this]; simp; grind
  have ey := num_eq y
  rw [nQ] at ey
  have e : x + -y * T = x + (((y.den - 1 : Nat)) : Rat) * y * T + ((-y.num : Int) : Rat) * T := by
    rw [ngQ, e0]; grind
  rw [e, rst_add T0]
  exact h1
theorem nodup_leR : ∀ {l m : List Rat}, l.Nodup → (∀ x ∈ l, x ∈ m) → l.length ≤ m.length
  | [], m, _, _ => Nat.zero_le _
  | a :: l, m, h, hm => by
    obtain ⟨h1, h2⟩ := List.nodup_cons.mp h
    have ha := hm a List.mem_cons_self
    have := nodup_leR (l := l) (m := m.erase a) h2 fun x hx => by
      have ne : x ≠ a := fun e => h1 (e ▸ hx)
      exact (List.mem_erase_of_ne ne).mpr (hm x (List.mem_cons_of_mem _ hx))
    rw [List.length_erase_of_mem ha] at this
    have := List.length_pos_of_mem ha
    rw [List.length_cons]
    omega
theorem pha_le {xs : List Rat} {T : Rat} (T0 : 0 < T) (hx : ∀ x ∈ xs, 0 ≤ x ∧ x < T) (l1 : 1 ≤ xs.length) (b : Nat) (b0 : 0 < b) (h : PhA xs T (1 / (b : Rat))) : b ≤ xs.length := by
  obtain ⟨x, hm⟩ : ∃ x, x ∈ xs := ⟨_, List.getElem_mem (by omega : 0 < xs.length)⟩
  have H := pha_hs T0 hx
  have b0' : ((b : Nat) : Rat) ≠ 0 := by exact_mod_cast (by omega : b ≠ 0)
  have bp : (0 : Rat) < (b : Rat) := by exact_mod_cast b0
  have := nodup_leR (l := (List.range b).map fun (j : Nat) => rst (x + ((j : Rat) * (1 / (b : Rat))) * T) T) (m := xs) ?_ fun y hy => by
    obtain ⟨j, _, rfl⟩ := List.mem_map.mp hy
    exact H.nat h j x hm
  · simpa using this
  · refine List.pairwise_map.mpr (List.Pairwise.imp_of_mem (R := fun a b => a < b) (fun {i j} hi hj lt e => ?_) List.pairwise_lt_range)
    have hj' := List.mem_range.mp hj
    unfold rst at e
    generalize fl ((x + ((i : Rat) * (1 / (b : Rat))) * T) / T) = m1 at e
    generalize fl ((x + ((j : Rat) * (1 / (b : Rat))) * T) / T) = m2 at e
    have tn : T ≠ 0 := by grind
    have e2 : ((j : Rat) - (i : Rat)) = ((m2 : Rat) - (m1 : Rat)) * (b : Rat) := by
      have e3 : (((j : Rat) - (i : Rat)) - ((m2 : Rat) - (m1 : Rat)) * (b : Rat)) * T = 0 := by grind
      rcases Rat.mul_eq_zero.mp e3 with z | z
      · grind
      · exact absurd z tn
    have e4 : (((j : Int) - (i : Int) : Int) : Rat) = (((m2 - m1) * (b : Int) : Int) : Rat) := by
      rw [Rat.intCast_mul, Rat.intCast_sub, Rat.intCast_sub, nQ, nQ, nQ]; exact e2
    have e5 : (j : Int) - (i : Int) = (m2 - m1) * (b : Int) := by exact_mod_cast e4
    have p1 : 0 < (m2 - m1) * (b : Int) := by omega
    have p2 : (m2 - m1) * (b : Int) < b := by omega
    have p3 : 0 < m2 - m1 := Int.pos_of_mul_pos_left p1 (by omega)
    have p4 : 1 * (b : Int) ≤ (m2 - m1) * (b : Int) := Int.mul_le_mul_of_nonneg_right (by omega) (by omega)
    omega
theorem turns_pha {xs : List Rat} {T : Rat} {k : Nat} : turnsQ xs T ((k : Nat) : Int) = true ↔ PhA xs T (1 / (k : Rat)) := by
  unfold turnsQ PhA
  rw [List.all_eq_true]
  have e : ∀ x : Rat, x + T / (((k : Nat) : Int) : Rat) = x + 1 / (k : Rat) * T := fun x => by rw [nQ]; grind
  constructor
  · intro h x hm
    rw [← e]
    exact of_decide_eq_true (h x hm)
  · intro h x hm
    rw [e]
    exact decide_eq_true (h x hm)
theorem pt_max {xs : List Rat} {T : Rat} : ∀ n j : Nat, ptQ xs T n < j → j ≤ n → turnsQ xs T (j : Int) = false
  | 0, j, h1, h2 => by rw [ptQ] at h1; omega
  | n + 1, j, h1, h2 => by
    rw [ptQ] at h1
    cases c : turnsQ xs T ((n + 1 : Nat) : Int) with
    | true => rw [c] at h1; simp at h1; omega
    | false =>
      rw [c] at h1
      simp at h1
      by_cases w : j = n + 1
      · rw [w]; exact c
      · exact pt_max n j h1 (by omega)
theorem pt_turns {xs : List Rat} {T : Rat} (T0 : 0 < T) (h : ∀ x ∈ xs, 0 ≤ x ∧ x < T) : ∀ n, 1 ≤ n → turnsQ xs T ((ptQ xs T n : Nat) : Int) = true
  | 0, z => absurd z (by omega)
  | n + 1, _ => by
    rw [ptQ]
    cases c : turnsQ xs T ((n + 1 : Nat) : Int) with
    | true => rw [if_pos rfl]; exact c
    | false =>
      rw [if_neg Bool.false_ne_true]
      cases n with
      | zero => rw [turns_one T0 h] at c; cases c
      | succ n => exact pt_turns T0 h (n + 1) (by omega)
/-- what leads one speed's phases back -/
theorem pha_all {xs : List Rat} {T s : Rat} (T0 : 0 < T) (s0 : 0 < s) (hx : ∀ x ∈ xs, 0 ≤ x ∧ x < T) (l1 : 1 ≤ xs.length) (t : Rat) : PhA xs T (s * t / T) ↔ ∃ m : Int, t = (m : Rat) * rbQ xs T s := by
  obtain ⟨p1, p2⟩ := pt_le T0 hx xs.length
  have p3 := p2 l1
  have h := (pha_hs T0 hx).all (n := xs.length) (k := ptQ xs T xs.length) (fun b b0 hb => pha_le T0 hx l1 b b0 hb) (by omega) (turns_pha.mp (pt_turns T0 hx _ l1)) (fun j h1 h2 hj => by
    have := pt_max _ j h1 h2
    rw [turns_pha.mpr hj] at this
    cases this) (s * t / T)
  rw [h]
  unfold rbQ
  have k0 : ((ptQ xs T xs.length : Nat) : Rat) ≠ 0 := by exact_mod_cast (by omega : ptQ xs T xs.length ≠ 0)
  have tn : T ≠ 0 := by grind
  have sn : s ≠ 0 := by grind
  generalize ptQ xs T xs.length = k at *
  constructor
  · rintro ⟨m, e⟩
    exact ⟨m, by rw [nQ]; grind⟩
  · rintro ⟨m, e⟩
    exact ⟨m, by rw [nQ] at e; grind⟩
/-! ### multiples of two times -/
theorem lc_int {a b : Rat} (ha : 0 < a) (hb : 0 < b) : ∃ i j : Nat, 0 < i ∧ 0 < j ∧ Nat.Coprime i j ∧ lcQ a b = (i : Rat) * a ∧ lcQ a b = (j : Rat) * b := by
  have n1 := num_posR ha
  have n2 := num_posR hb
  obtain ⟨n, en⟩ : ∃ n : Nat, a.num = (n : Nat) := ⟨a.num.toNat, by omega⟩
  obtain ⟨m, em⟩ : ∃ m : Nat, b.num = (m : Nat) := ⟨b.num.toNat, by omega⟩
  have n0 : 0 < n := by omega
  have m0 : 0 < m := by omega
  have ca : Nat.Coprime n a.den := by have := a.reduced; rw [en] at this; simpa using this
  have cb : Nat.Coprime m b.den := by have := b.reduced; rw [em] at this; simpa using this
  have d0 := a.den_pos
  have e0 := b.den_pos
  have ea := num_eq a
  have eb := num_eq b
  rw [nQ, en, nQ] at ea
  rw [nQ, em, nQ] at eb
  have elc : lcQ a b = ((n * m / Nat.gcd n m : Nat) : Rat) / ((Nat.gcd a.den b.den : Nat) : Rat) := by
    unfold lcQ lcI
    rw [en, em]
    have g1 : (Int.gcd (n : Int) (m : Int) : Int) = ((Nat.gcd n m : Nat) : Int) := rfl
    have g2 : (Int.gcd (a.den : Int) (b.den : Int) : Int) = ((Nat.gcd a.den b.den : Nat) : Int) := rfl
    rw [g1, g2, nQ, ← Int.natCast_mul, ← Int.natCast_ediv, nQ]
  generalize a.den = d at *
  generalize b.den = e at *
  obtain ⟨g, p, q, g0, cpq, rfl, rfl⟩ : ∃ g p q, 0 < g ∧ Nat.Coprime p q ∧ n = p * g ∧ m = q * g := by
    have g0 := Nat.gcd_pos_of_pos_left m n0
    exact ⟨Nat.gcd n m, n / Nat.gcd n m, m / Nat.gcd n m, g0, Nat.coprime_div_gcd_div_gcd g0, (Nat.div_mul_cancel (Nat.gcd_dvd_left ..)).symm, (Nat.div_mul_cancel (Nat.gcd_dvd_right ..)).symm⟩
  obtain ⟨h, r, s, h0, crs, rfl, rfl⟩ : ∃ h r s, 0 < h ∧ Nat.Coprime r s ∧ d = r * h ∧ e = s * h := by
    have g0 := Nat.gcd_pos_of_pos_left e d0
    exact ⟨Nat.gcd d e, d / Nat.gcd d e, e / Nat.gcd d e, g0, Nat.coprime_div_gcd_div_gcd g0, (Nat.div_mul_cancel (Nat.gcd_dvd_left ..)).symm, (Nat.div_mul_cancel (Nat.gcd_dvd_right ..)).symm⟩
  have g1 : Nat.gcd (p * g) (q * g) = g := by rw [Nat.gcd_mul_right, cpq, Nat.one_mul]
  have g2 : Nat.gcd (r * h) (s * h) = h := by rw [Nat.gcd_mul_right, crs, Nat.one_mul]
  have e3 : p * g * (q * g) / g = p * q * g := by
    rw [show p * g * (q * g) = p * q * g * g by grind, Nat.mul_div_cancel _ g0]
  rw [g1, g2, e3] at elc
  have p0 : 0 < p := Nat.pos_of_mul_pos_right n0
  have q0 : 0 < q := Nat.pos_of_mul_pos_right m0
  have r0 : 0 < r := Nat.pos_of_mul_pos_right d0
  have s0 : 0 < s := Nat.pos_of_mul_pos_right e0
  have cps : Nat.Coprime q s := (cb.coprime_mul_right).coprime_mul_right_right
  have cpr : Nat.Coprime p r := (ca.coprime_mul_right).coprime_mul_right_right
  refine ⟨q * r, p * s, Nat.mul_pos q0 r0, Nat.mul_pos p0 s0, ?_, ?_, ?_⟩
  · exact (Nat.Coprime.mul_left (cpq.symm.mul_right cps) (cpr.symm.mul_right crs))
  · have x1 : ((p * q * g : Nat) : Rat) = (p : Rat) * (q : Rat) * (g : Rat) := by rw [Rat.natCast_mul, Rat.natCast_mul]
    have x2 : ((p * g : Nat) : Rat) = (p : Rat) * (g : Rat) := by rw [Rat.natCast_mul]
    have x3 : ((r * h : Nat) : Rat) = (r : Rat) * (h : Rat) := by rw [Rat.natCast_mul]
    have x4 : ((q * r : Nat) : Rat) = (q : Rat) * (r : Rat) := by rw [Rat.natCast_mul]
    have h0' : ((h : Nat) : Rat) ≠ 0 := by exact_mod_cast (by omega : h ≠ 0)
    rw [x2, x3] at ea
    rw [elc, x1, x4]
    have : (p : Rat) * (q : Rat) * (g : Rat) = (q : Rat) * (r : Rat) * a * (h : Rat) := by grind
    rw [this]
    grind
  · have x1 : ((p * q * g : Nat) : Rat) = (p : Rat) * (q : Rat) * (g : Rat) := by rw [Rat.natCast_mul, Rat.natCast_mul]
    have x2 : ((q * g : Nat) : Rat) = (q : Rat) * (g : Rat) := by rw [Rat.natCast_mul]
    have x3 : ((s * h : Nat) : Rat) = (s : Rat) * (h : Rat) := by rw [Rat.natCast_mul]
    have x4 : ((p * s : Nat) : Rat) = (p : Rat) * (s : Rat) := by rw [Rat.natCast_mul]
    have h0' : ((h : Nat) : Rat) ≠ 0 := by exact_mod_cast (by omega : h ≠ 0)
    rw [x2, x3] at eb
    rw [elc, x1, x4]
    have : (p : Rat) * (q : Rat) * (g : Rat) = (p : Rat) * (s : Rat) * b * (h : Rat) := by grind
    rw [this]
    grind
theorem lc_all {a b : Rat} (ha : 0 < a) (hb : 0 < b) (t : Rat) : ((∃ m : Int, t = (m : Rat) * a) ∧ ∃ m : Int, t = (m : Rat) * b) ↔ ∃ m : Int, t = (m : Rat) * lcQ a b := by
  obtain ⟨i, j, i0, j0, cij, e1, e2⟩ := lc_int ha hb
  have i0' : ((i : Nat) : Rat) ≠ 0 := by exact_mod_cast (by omega : i ≠ 0)
  constructor
  · rintro ⟨⟨m, h1⟩, n, h2⟩
    have b0 : b ≠ 0 := by grind
    have e3 : ((m : Rat) * (j : Rat) - (n : Rat) * (i : Rat)) * b = 0 := by
      have : (i : Rat) * a = (j : Rat) * b := by rw [← e1, e2]
      have h3 : (m : Rat) * a = (n : Rat) * b := by rw [← h1, h2]
      have : ((m : Rat) * (j : Rat)) * b = (m : Rat) * ((i : Rat) * a) := by rw [this]; grind
      have : (m : Rat) * ((i : Rat) * a) = ((n : Rat) * (i : Rat)) * b := by grind
      grind
    have e4 : (m : Rat) * (j : Rat) = (n : Rat) * (i : Rat) := by
      rcases Rat.mul_eq_zero.mp e3 with z | z
      · grind
      · exact absurd z b0
    have e5 : m * (j : Int) = n * (i : Int) := by
      have : ((m * (j : Int) : Int) : Rat) = ((n * (i : Int) : Int) : Rat) := by
        rw [Rat.intCast_mul, Rat.intCast_mul, nQ, nQ]; exact e4
      exact_mod_cast this
    have dv : (i : Int) ∣ m * (j : Int) := ⟨n, by rw [e5, Int.mul_comm]⟩
    have dv2 : i ∣ m.natAbs := by
      have h3 : i ∣ (m * (j : Int)).natAbs := Int.ofNat_dvd_left.mp dv
      rw [Int.natAbs_mul, Int.natAbs_natCast] at h3
      exact cij.dvd_of_dvd_mul_right h3
    obtain ⟨c, hc⟩ := Int.ofNat_dvd_left.mpr dv2
    refine ⟨c, ?_⟩
    rw [h1, e1, hc, Rat.intCast_mul, nQ]
    grind
  · rintro ⟨m, h⟩
    refine ⟨⟨m * (i : Int), ?_⟩, m * (j : Int), ?_⟩
    · rw [Rat.intCast_mul, nQ, h, e1]; grind
    · rw [Rat.intCast_mul, nQ, h, e2]; grind
/-- what leads all phases back -/
theorem rd_all {T : Rat} (T0 : 0 < T) {t : List (Rat × List Rat)} (ok : ∀ x ∈ t, 0 < x.1 ∧ 1 ≤ x.2.length ∧ ∀ y ∈ x.2, 0 ≤ y ∧ y < T) : ∀ j, 1 ≤ j → j ≤ t.length → ∃ q, rdW (t.take j) T = some q ∧ 0 < q ∧ ∀ u : Rat, (∀ x ∈ t.take j, ∃ m : Int, u = (m : Rat) * rbQ x.2 T x.1) ↔ ∃ m : Int, u = (m : Rat) * q
  | 0, z, _ => absurd z (by omega)
  | j + 1, _, hj => by
    have hx : t[j]? = some t[j] := List.getElem?_eq_getElem (by omega)
    obtain ⟨o1, o2, o3⟩ := ok _ (List.getElem_mem (by omega : j < t.length))
    have r1 : 0 < rbQ (t[j]).2 T (t[j]).1 := by
      obtain ⟨p1, p2⟩ := pt_le T0 o3 (t[j]).2.length
      have p3 := p2 o2
      have kp : (0 : Rat) < (((ptQ (t[j]).2 T (t[j]).2.length : Nat) : Int) : Rat) := by exact_mod_cast (by omega : (0 : Int) < ((ptQ (t[j]).2 T (t[j]).2.length : Nat) : Int))
      exact div_posR T0 (Rat.mul_pos o1 kp)
    have tk : t.take (j + 1) = t.take j ++ [t[j]] := by rw [List.take_add_one, hx]; rfl
    rw [rd_take t T j hx]
    by_cases j0 : j = 0
    · subst j0
      refine ⟨_, rfl, r1, fun u => ?_⟩
      rw [tk]
      simp [rdW]
    · obtain ⟨q, h1, h2, h3⟩ := rd_all T0 ok j (by omega) (by omega)
      rw [h1]
      obtain ⟨i, k, i0, _, _, e1, _⟩ := lc_int h2 r1
      refine ⟨_, rfl, ?_, fun u => ?_⟩
      · show 0 < lcQ q _
        rw [e1]
        exact Rat.mul_pos (by exact_mod_cast i0) h2
      · rw [← lc_all h2 r1 u, ← h3 u, tk]
        constructor
        · intro h
          exact ⟨fun x hx => h x (List.mem_append_left _ hx), h _ (List.mem_append_right _ (by simp))⟩
        · rintro ⟨g1, g2⟩ x hx
          rcases List.mem_append.mp hx with hx | hx
          · exact g1 x hx
          · have : x = t[j] := by simpa using hx
            rw [this]; exact g2
end VS
set_option Elab.async false
set_option linter.all false
set_option maxRecDepth 100000
set_option maxHeartbeats 4000000
/-! VM159: the round, plain: when a room is as it was. Own work. -/
namespace VS
open PySem PySem.Spec PyProof.Rows
structure TabI (t : List (Rat × List Rat)) (bs : List Bw) (L : Rat) : Prop where
  nd : t.Pairwise fun a b => a.1 ≠ b.1
  mem : ∀ x ∈ t, ∀ y, y ∈ x.2 ↔ ∃ b ∈ bs, b.u ≠ 0 ∧ gr b.u = x.1 ∧ phR b L = y
  all : ∀ b ∈ bs, b.u ≠ 0 → ∃ x ∈ t, x.1 = gr b.u
theorem add_key {s v k : Rat} : ∀ {t : List (Rat × List Rat)}, (∃ z ∈ addP t s v, z.1 = k) ↔ (∃ z ∈ t, z.1 = k) ∨ k = s
  | [] => by simp [addP]; exact ⟨fun h => h.symm, fun h => h.symm⟩
  | (t0, xs) :: r => by
    have ih := add_key (s := s) (v := v) (k := k) (t := r)
    by_cases c : t0 = s
    · subst c
      simp [addP]
      intro h
      exact .inl h.symm
    · rw [addP, if_neg c]
      constructor
      · rintro ⟨z, hz, e⟩
        rcases List.mem_cons.mp hz with rfl | hz
        · exact .inl ⟨_, List.mem_cons_self, e⟩
        · rcases ih.mp ⟨z, hz, e⟩ with ⟨w, hw, e⟩ | h
          · exact .inl ⟨w, List.mem_cons_of_mem _ hw, e⟩
          · exact .inr h
      · rintro (⟨z, hz, e⟩ | h)
        · rcases List.mem_cons.mp hz with rfl | hz
          · exact ⟨_, List.mem_cons_self, e⟩
          · obtain ⟨w, hw, e⟩ := ih.mpr (.inl ⟨z, hz, e⟩)
            exact ⟨w, List.mem_cons_of_mem _ hw, e⟩
        · obtain ⟨w, hw, e⟩ := ih.mpr (.inr h)
          exact ⟨w, List.mem_cons_of_mem _ hw, e⟩
theorem add_nd {s v : Rat} : ∀ {t : List (Rat × List Rat)}, t.Pairwise (fun a b => a.1 ≠ b.1) → (addP t s v).Pairwise fun a b => a.1 ≠ b.1
  | [], _ => by simp [addP]
  | (t0, xs) :: r, h => by
    obtain ⟨h1, h2⟩ := List.pairwise_cons.mp h
    by_cases c : t0 = s
    · rw [addP, if_pos c]
      exact List.pairwise_cons.mpr ⟨h1, h2⟩
    · rw [addP, if_neg c]
      refine List.pairwise_cons.mpr ⟨fun z hz e => ?_, add_nd h2⟩
      rcases add_key.mp ⟨z, hz, rfl⟩ with ⟨w, hw, e2⟩ | e2
      · exact h1 w hw (by rw [e2]; exact e)
      · exact c (by rw [← e2]; exact e)
theorem add_mem {s v : Rat} : ∀ {t : List (Rat × List Rat)}, t.Pairwise (fun a b => a.1 ≠ b.1) → ∀ x ∈ addP t s v, (x ∈ t ∧ x.1 ≠ s) ∨ (x.1 = s ∧ ((∃ ys, (s, ys) ∈ t ∧ x.2 = ys ++ [v]) ∨ ((∀ z ∈ t, z.1 ≠ s) ∧ x.2 = [v])))
  | [], _, x, hx => by
    have : x = (s, [v]) := by simpa [addP] using hx
    subst this
    exact .inr ⟨rfl, .inr ⟨by simp, rfl⟩⟩
  | (t0, xs) :: r, h, x, hx => by
    obtain ⟨h1, h2⟩ := List.pairwise_cons.mp h
    by_cases c : t0 = s
    · rw [addP, if_pos c] at hx
      subst c
      rcases List.mem_cons.mp hx with rfl | hx
      · exact .inr ⟨rfl, .inl ⟨xs, List.mem_cons_self, rfl⟩⟩
      · exact .inl ⟨List.mem_cons_of_mem _ hx, fun e => h1 x hx e.symm⟩
    · rw [addP, if_neg c] at hx
      rcases List.mem_cons.mp hx with rfl | hx
      · exact .inl ⟨List.mem_cons_self, c⟩
      · rcases add_mem h2 x hx with ⟨g1, g2⟩ | ⟨g1, ⟨ys, g2, g3⟩ | ⟨g2, g3⟩⟩
        · exact .inl ⟨List.mem_cons_of_mem _ g1, g2⟩
        · exact .inr ⟨g1, .inl ⟨ys, List.mem_cons_of_mem _ g2, g3⟩⟩
        · refine .inr ⟨g1, .inr ⟨fun z hz => ?_, g3⟩⟩
          rcases List.mem_cons.mp hz with rfl | hz
          · exact c
          · exact g2 z hz
theorem tabI_step {t : List (Rat × List Rat)} {bs : List Bw} {L : Rat} (h : TabI t bs L) (b : Bw) : TabI (if b.u = 0 then t else addP t (gr b.u) (phR b L)) (bs ++ [b]) L := by
  by_cases c : b.u = 0
  · rw [if_pos c]
    refine ⟨h.nd, fun x hx y => ?_, fun b' hb' n => ?_⟩
    · rw [h.mem x hx y]
      constructor
      · rintro ⟨b', hb', r⟩
        exact ⟨b', List.mem_append_left _ hb', r⟩
      · rintro ⟨b', hb', n, r⟩
        rcases List.mem_append.mp hb' with hb' | hb'
        · exact ⟨b', hb', n, r⟩
        · have : b' = b := by simpa using hb'
          rw [this] at n
          exact absurd c n
    · rcases List.mem_append.mp hb' with hb' | hb'
      · exact h.all b' hb' n
      · have : b' = b := by simpa using hb'
        rw [this] at n
        exact absurd c n
  · rw [if_neg c]
    refine ⟨add_nd h.nd, fun x hx y => ?_, fun b' hb' n => ?_⟩
    · rcases add_mem h.nd x hx with ⟨g1, g2⟩ | ⟨g1, ⟨ys, g2, g3⟩ | ⟨g2, g3⟩⟩
      · rw [h.mem x g1 y]
        constructor
        · rintro ⟨b', hb', r⟩
          exact ⟨b', List.mem_append_left _ hb', r⟩
        · rintro ⟨b', hb', n, r1, r2⟩
          rcases List.mem_append.mp hb' with hb' | hb'
          · exact ⟨b', hb', n, r1, r2⟩
          · have : b' = b := by simpa using hb'
            rw [this] at r1
            exact absurd r1.symm g2
      · have m := h.mem _ g2 y
        dsimp only at m
        rw [g3, g1, List.mem_append, m]
        constructor
        · rintro (⟨b', hb', r⟩ | hy)
          · exact ⟨b', List.mem_append_left _ hb', r⟩
          · have : y = phR b L := by simpa using hy
            exact ⟨b, List.mem_append_right _ (by simp), c, rfl, this.symm⟩
        · rintro ⟨b', hb', n, r1, r2⟩
          rcases List.mem_append.mp hb' with hb' | hb'
          · exact .inl ⟨b', hb', n, r1, r2⟩
          · have : b' = b := by simpa using hb'
            rw [this] at r2
            exact .inr (by simp [r2])
      · rw [g3, g1]
        constructor
        · intro hy
          have : y = phR b L := by simpa using hy
          exact ⟨b, List.mem_append_right _ (by simp), c, rfl, this.symm⟩
        · rintro ⟨b', hb', n, r1, r2⟩
          rcases List.mem_append.mp hb' with hb' | hb'
          · obtain ⟨z, hz, e⟩ := h.all b' hb' n
            exact absurd (e.trans r1) (g2 z hz)
          · have : b' = b := by simpa using hb'
            rw [this] at r2
            simp [r2]
    · rcases List.mem_append.mp hb' with hb' | hb'
      · exact add_key.mpr (.inl (h.all b' hb' n))
      · have : b' = b := by simpa using hb'
        rw [this]
        exact add_key.mpr (.inr rfl)
theorem tab_I (bs : List Bw) (L : Rat) : TabI (tabW bs L) bs L := by
  have go : ∀ (l done : List Bw) (t : List (Rat × List Rat)), TabI t done L → TabI (l.foldl (fun t b => if b.u = 0 then t else addP t (gr b.u) (phR b L)) t) (done ++ l) L := fun l => by
    induction l with
    | nil => intro done t h; simpa using h
    | cons b l ih =>
      intro done t h
      have := ih (done ++ [b]) _ (tabI_step h b)
      rw [List.append_assoc] at this
      exact this
  have := go bs [] [] ⟨.nil, by simp, by simp⟩
  simpa [tabW] using this
theorem tab_ne (bs : List Bw) (L : Rat) : ∀ x ∈ tabW bs L, 1 ≤ x.2.length := by
  have one : ∀ (s v : Rat) (t : List (Rat × List Rat)), (∀ x ∈ t, 1 ≤ x.2.length) → ∀ x ∈ addP t s v, 1 ≤ x.2.length := fun s v t => by
    induction t with
    | nil => intro _ x hx; have : x = (s, [v]) := by simpa [addP] using hx
             rw [this]; exact Nat.le_refl _
    | cons z r ih =>
      intro h x hx
      obtain ⟨t0, xs⟩ := z
      have h0 := h _ List.mem_cons_self
      have ih := ih fun x hx => h x (List.mem_cons_of_mem _ hx)
      by_cases c : t0 = s
      · rw [addP, if_pos c] at hx
        rcases List.mem_cons.mp hx with rfl | hx
        · simp
        · exact h x (List.mem_cons_of_mem _ hx)
      · rw [addP, if_neg c] at hx
        rcases List.mem_cons.mp hx with rfl | hx
        · exact h0
        · exact ih x hx
  have go : ∀ (l : List Bw) (t : List (Rat × List Rat)), (∀ x ∈ t, 1 ≤ x.2.length) → ∀ x ∈ l.foldl (fun t b => if b.u = 0 then t else addP t (gr b.u) (phR b L)) t, 1 ≤ x.2.length := fun l => by
    induction l with
    | nil => intro t h; exact h
    | cons b l ih =>
      intro t h
      refine ih _ ?_
      show ∀ x ∈ (if b.u = 0 then t else addP t (gr b.u) (phR b L)), _
      split
      · exact h
      · exact one _ _ t h
  exact go bs [] (by simp)
/-! ### a body by its phase -/
def phB (L s y : Rat) (m : Int) : Bw := if y = 0 then ⟨0, s, m⟩ else if y < L then ⟨y, s, m⟩ else if y = L then ⟨L, -s, m⟩ else ⟨L + L - y, -s, m⟩
theorem ph_self {L : Rat} {b : Bw} (h1 : 0 < b.p) (h2 : b.p < L) (n : b.u ≠ 0) : phB L (gr b.u) (phR b L) b.m = b := by
  obtain ⟨p, u, m⟩ := b
  dsimp only at *
  unfold phB gr phR
  dsimp only
  by_cases c : u < 0
  · rw [if_pos c, if_pos c, if_neg (by grind), if_neg (by grind), if_neg (by grind)]
    congr 1 <;> grind
  · rw [if_neg c, if_neg c, if_neg (by grind), if_pos h2]
theorem ph_inv {L s y : Rat} {m : Int} {b : Bw} (s0 : 0 < s) (y0 : 0 ≤ y) (y1 : y < L + L) (h1 : 0 < b.p) (h2 : b.p < L) (e : phB L s y m = b) : b.u ≠ 0 ∧ gr b.u = s ∧ phR b L = y ∧ b.m = m := by
  subst e
  unfold phB at *
  by_cases c1 : y = 0
  · rw [if_pos c1] at h1
    exact absurd h1 (by grind)
  · simp only [if_neg c1] at *
    by_cases c2 : y < L
    · simp only [if_pos c2] at *
      unfold gr phR
      dsimp only
      rw [if_neg (by grind), if_neg (by grind)]
      exact ⟨by grind, by first | rfl | trivial, by first | rfl | trivial, by first | rfl | trivial⟩
    · simp only [if_neg c2] at *
      by_cases c3 : y = L
      · simp only [if_pos c3] at *
        exact absurd h2 (by grind)
      · simp only [if_neg c3] at *
        unfold gr phR
        dsimp only
        rw [if_pos (by grind), if_pos (by grind)]
        exact ⟨by grind, by grind, by grind, by first | rfl | trivial⟩
theorem rst_opp {x T : Rat} (T0 : 0 < T) : rst (T - x) T = if rst x T = 0 then 0 else T - rst x T := by
  obtain ⟨b1, b2⟩ := rst_b (x := x) T0
  have e : x = rst x T + (fl (x / T) : Rat) * T := by unfold rst; grind
  split
  · rename_i c
    refine rst_eq (m := 1 - fl (x / T)) T0 (by grind) T0 ?_
    rw [Rat.intCast_sub]
    have : ((1 : Int) : Rat) = 1 := rfl
    rw [this]
    rw [c] at e
    grind
  · rename_i c
    refine rst_eq (m := - fl (x / T)) T0 (by grind) (by grind) ?_
    rw [ngQ]
    grind
theorem fw_ph {L t : Rat} (L0 : 0 < L) {b : Bw} (n : b.u ≠ 0) : fw L t b = phB L (gr b.u) (rst (phR b L + gr b.u * t) (L + L)) b.m := by
  have T0 : 0 < L + L := by grind
  obtain ⟨p, u, m⟩ := b
  dsimp only at *
  obtain ⟨b1, b2⟩ := rst_b (x := p + u * t) T0
  show foldW L ⟨p + u * t, u, m⟩ = _
  unfold foldW
  dsimp only
  by_cases c : u < 0
  · have e1 : gr u = -u := by unfold gr; rw [if_pos c]
    have e2 : phR ⟨p, u, m⟩ L = L + L - p := by unfold phR; rw [if_pos c]
    have e3 : L + L - p + -u * t = L + L - (p + u * t) := by grind
    rw [e1, e2, e3, rst_opp T0]
    generalize rst (p + u * t) (L + L) = x at *
    unfold phB
    by_cases c1 : x = 0
    · rw [if_pos c1, if_pos c1, if_pos rfl, c1]
    · have n0 : ¬ L + L - x = 0 := by grind
      rw [if_neg c1, if_neg c1, if_neg n0]
      by_cases c2 : x < L
      · have n1 : ¬ L + L - x < L := by grind
        have n2 : ¬ L + L - x = L := by grind
        rw [if_pos c2, if_neg n1, if_neg n2]
        congr 1 <;> grind
      · rw [if_neg c2]
        by_cases c3 : x = L
        · have n1 : ¬ L + L - x < L := by grind
          have n2 : L + L - x = L := by grind
          rw [if_pos c3, if_neg n1, if_pos n2, c3]
        · have n1 : L + L - x < L := by grind
          rw [if_neg c3, if_pos n1]
  · have e1 : gr u = u := by unfold gr; rw [if_neg c]
    have e2 : phR ⟨p, u, m⟩ L = p := by unfold phR; rw [if_neg c]
    rw [e1, e2]
    generalize rst (p + u * t) (L + L) = x at *
    unfold phB
    by_cases c1 : x = 0
    · rw [if_pos c1, if_pos c1, c1]
    · rw [if_neg c1, if_neg c1]
      by_cases c2 : x < L
      · rw [if_pos c2, if_pos c2]
      · rw [if_neg c2, if_neg c2]
        by_cases c3 : x = L
        · rw [if_pos c3, if_pos c3, c3]
        · rw [if_neg c3, if_neg c3]
theorem fw_rest {L t : Rat} {b : Bw} (h1 : 0 < b.p) (h2 : b.p < L) (n : b.u = 0) : fw L t b = b := by
  obtain ⟨p, u, m⟩ := b
  dsimp only at *
  subst n
  show foldW L ⟨p + 0 * t, 0, m⟩ = _
  have e : p + 0 * t = p := by grind
  rw [e]
  unfold foldW
  dsimp only
  rw [rst_id (by grind) (by grind) (by grind), if_neg (by grind), if_pos h2]
theorem perm_le : ∀ {l m : List Bw}, l.Nodup → (∀ x ∈ l, x ∈ m) → m.length ≤ l.length → l.Perm m
  | [], m, _, _, h => by
    have : m = [] := List.eq_nil_of_length_eq_zero (by simpa using h)
    rw [this]
  | a :: l, m, nd, hm, h => by
    obtain ⟨h1, h2⟩ := List.nodup_cons.mp nd
    obtain ⟨u, v, rfl⟩ := List.append_of_mem (hm a List.mem_cons_self)
    have ih := perm_le (l := l) (m := u ++ v) h2 (fun x hx => by
      have ne : x ≠ a := fun e => h1 (e ▸ hx)
      have := hm x (List.mem_cons_of_mem _ hx)
      simp only [List.mem_append, List.mem_cons] at this ⊢
      rcases this with z | z | z
      · exact .inl z
      · exact absurd z ne
      · exact .inr z) (by simp at h ⊢; omega)
    exact (ih.cons a).trans List.perm_middle.symm
theorem ap_fw {bs : List Bw} {L t : Rat} (L0 : 0 < L) (inc : bs.Pairwise fun a b => a.p < b.p) (win : ∀ b ∈ bs, 0 < b.p ∧ b.p < L) : (bs.map (fw L t)).Pairwise fun a b => ltW a b ∨ ltW b a := by
  refine List.pairwise_map.mpr (inc.imp_of_mem fun {a b} ha hb lt => ?_)
  exact fold_apart L0 (win a ha) (win b hb) (by grind)
theorem rm_perm (bs : List Bw) (L t : Rat) : (rmL L t bs).Perm (bs.map (fw L t)) := by
  unfold rmL
  have h := (rank_perm (bs.map (fw L t)) 0 []).map (·.1)
  simpa using h
theorem rm_iff {bs : List Bw} {L t : Rat} (L0 : 0 < L) (inc : bs.Pairwise fun a b => a.p < b.p) (win : ∀ b ∈ bs, 0 < b.p ∧ b.p < L) : rmL L t bs = bs ↔ ∀ b ∈ bs, fw L t b ∈ bs := by
  have ap := ap_fw (t := t) L0 inc win
  constructor
  · intro h b hb
    have p := rm_perm bs L t
    rw [h] at p
    exact p.mem_iff.mpr (List.mem_map.mpr ⟨b, hb, rfl⟩)
  · intro h
    have s1 : (rmL L t bs).Pairwise ltW := List.pairwise_map.mpr (rank_all ap)
    have s2 : bs.Pairwise ltW := inc.imp fun {a b} lt => .inl lt
    refine srt_uniq s1 s2 ((rm_perm bs L t).trans (perm_le ?_ (fun x hx => ?_) (by simp)))
    · exact ap.imp fun {a b} o e => by
        subst e
        rcases o with o | o <;> exact ltW_asym o o
    · obtain ⟨b, hb, rfl⟩ := List.mem_map.mp hx
      exact h b hb
theorem ph_b {b : Bw} {L : Rat} (h1 : 0 < b.p) (h2 : b.p < L) : 0 ≤ phR b L ∧ phR b L < L + L := by
  unfold phR
  split <;> grind
/-- the times at which a room is as it was -/
theorem round_iff {bs : List Bw} {L t : Rat} {m : Int} (L0 : 0 < L) (inc : bs.Pairwise fun a b => a.p < b.p) (win : ∀ b ∈ bs, 0 < b.p ∧ b.p < L) (wt : ∀ b ∈ bs, b.m = m) :
    rmL L t bs = bs ↔ ∀ x ∈ tabW bs L, PhA x.2 (L + L) (x.1 * t / (L + L)) := by
  rw [rm_iff L0 inc win]
  have T0 : 0 < L + L := by grind
  have I := tab_I bs L
  have ee : ∀ s : Rat, s * t / (L + L) * (L + L) = s * t := fun s => by
    have : L + L ≠ 0 := by grind
    grind
  constructor
  · intro h x hx y hy
    obtain ⟨b, hb, n, e1, e2⟩ := (I.mem x hx y).mp hy
    obtain ⟨w1, w2⟩ := win b hb
    rw [ee, ← e1, ← e2]
    have hf := h b hb
    obtain ⟨v1, v2⟩ := win _ hf
    obtain ⟨r1, r2⟩ := rst_b (x := phR b L + gr b.u * t) T0
    obtain ⟨g1, g2, g3, g4⟩ := ph_inv (gr_pos n) r1 r2 v1 v2 (fw_ph L0 n).symm
    exact (I.mem x hx _).mpr ⟨_, hf, g1, by rw [g2, e1], g3⟩
  · intro h b hb
    obtain ⟨w1, w2⟩ := win b hb
    by_cases n : b.u = 0
    · rw [fw_rest w1 w2 n]; exact hb
    · obtain ⟨x, hx, e1⟩ := I.all b hb n
      have := h x hx _ ((I.mem x hx (phR b L)).mpr ⟨b, hb, n, e1.symm, rfl⟩)
      rw [ee, e1] at this
      obtain ⟨b', hb', n', e2, e3⟩ := (I.mem x hx _).mp this
      obtain ⟨v1, v2⟩ := win b' hb'
      rw [fw_ph L0 n, ← e3, wt b hb, ← wt b' hb', ← e1, ← e2, ph_self v1 v2 n']
      exact hb'
/-- .. are the multiples of the round -/
theorem round_all {bs : List Bw} {L : Rat} {m : Int} (L0 : 0 < L) (inc : bs.Pairwise fun a b => a.p < b.p) (win : ∀ b ∈ bs, 0 < b.p ∧ b.p < L) (wt : ∀ b ∈ bs, b.m = m) :
    ((∀ b ∈ bs, b.u = 0) ∧ rdW (tabW bs L) (L + L) = none) ∨ ((∃ b ∈ bs, b.u ≠ 0) ∧ ∃ q, rdW (tabW bs L) (L + L) = some q ∧ 0 < q ∧ ∀ t : Rat, rmL L t bs = bs ↔ ∃ k : Int, t = (k : Rat) * q) := by
  have I := tab_I bs L
  have T0 : 0 < L + L := by grind
  have ok : ∀ x ∈ tabW bs L, 0 < x.1 ∧ 1 ≤ x.2.length ∧ ∀ y ∈ x.2, 0 ≤ y ∧ y < L + L := fun x hx => by
    have hy : ∀ y ∈ x.2, (0 ≤ y ∧ y < L + L) ∧ 0 < x.1 := fun y hy => by
      obtain ⟨b, hb, n, e1, e2⟩ := (I.mem x hx y).mp hy
      obtain ⟨w1, w2⟩ := win b hb
      rw [← e1, ← e2]
      exact ⟨ph_b w1 w2, gr_pos n⟩
    have ne := tab_ne bs L x hx
    exact ⟨(hy _ (List.getElem_mem (by omega : 0 < x.2.length))).2, ne, fun y h => (hy y h).1⟩
  cases e : tabW bs L with
  | nil =>
    refine .inl ⟨fun b hb => Classical.byContradiction fun n => ?_, rfl⟩
    obtain ⟨x, hx, _⟩ := I.all b hb n
    rw [e] at hx
    cases hx
  | cons x0 r =>
    right
    have hl : 1 ≤ (tabW bs L).length := by rw [e]; simp
    obtain ⟨q, h1, h2, h3⟩ := rd_all T0 ok (tabW bs L).length hl (Nat.le_refl _)
    rw [List.take_length] at h1 h3
    rw [e] at h1
    refine ⟨?_, q, h1, h2, fun t => ?_⟩
    · have hx : x0 ∈ tabW bs L := by rw [e]; simp
      obtain ⟨_, l1, _⟩ := ok x0 hx
      obtain ⟨b, hb, n, _⟩ := (I.mem x0 hx _).mp (List.getElem_mem (by omega : 0 < x0.2.length))
      exact ⟨b, hb, n⟩
    · rw [round_iff L0 inc win wt, ← h3 t]
      constructor
      · intro h x hx
        obtain ⟨o1, o2, o3⟩ := ok x hx
        exact (pha_all T0 o1 o3 o2 t).mp (h x hx)
      · intro h x hx
        obtain ⟨o1, o2, o3⟩ := ok x hx
        exact (pha_all T0 o1 o3 o2 t).mpr (h x hx)
end VS
set_option Elab.async false
set_option linter.all false
set_option maxRecDepth 100000
set_option maxHeartbeats 4000000
/-! VM160: the round, plain: going down from the least common multiple (k57's own way). Own work. -/
namespace VS
open PySem PySem.Spec PyProof.Rows
def ownQ (T : Rat) (b : Bw) : Rat := T / gr b.u
def dueF (T : Rat) (o : Option Rat) (b : Bw) : Option Rat := if b.u = 0 then o else some (match o with
  | none => lcQ (ownQ T b) (ownQ T b)
  | some q => lcQ q (ownQ T b))
def dueW (bs : List Bw) (T : Rat) : Option Rat := bs.foldl (dueF T) none
theorem due_take (bs : List Bw) (T : Rat) (j : Nat) {b : Bw} (h : bs[j]? = some b) : dueW (bs.take (j + 1)) T = dueF T (dueW (bs.take j) T) b := by
  unfold dueW
  rw [List.take_add_one, h]
  simp [List.foldl_append]
theorem own_pos {T : Rat} (T0 : 0 < T) {b : Bw} (n : b.u ≠ 0) : 0 < ownQ T b := div_posR T0 (gr_pos n)
theorem lcQ_pos {a b : Rat} (ha : 0 < a) (hb : 0 < b) : 0 < lcQ a b := by
  obtain ⟨i, _, i0, _, _, e1, _⟩ := lc_int ha hb
  rw [e1]
  exact Rat.mul_pos (by exact_mod_cast i0) ha
/-- what all own times divide -/
theorem due_all {T : Rat} (T0 : 0 < T) (bs : List Bw) : ∀ j, j ≤ bs.length → ((∀ b ∈ bs.take j, b.u = 0) ∧ dueW (bs.take j) T = none) ∨ ((∃ b ∈ bs.take j, b.u ≠ 0) ∧ ∃ q, dueW (bs.take j) T = some q ∧ 0 < q ∧ ∀ u : Rat, (∀ b ∈ bs.take j, b.u ≠ 0 → ∃ m : Int, u = (m : Rat) * ownQ T b) ↔ ∃ m : Int, u = (m : Rat) * q)
  | 0, _ => .inl ⟨by simp, rfl⟩
  | j + 1, hj => by
    have hx : bs[j]? = some bs[j] := List.getElem?_eq_getElem (by omega)
    have tk : bs.take (j + 1) = bs.take j ++ [bs[j]] := by rw [List.take_add_one, hx]; rfl
    rw [due_take bs T j hx]
    generalize bs[j] = b at *
    have ih := due_all T0 bs j (by omega)
    unfold dueF
    by_cases n : b.u = 0
    · rw [if_pos n]
      rcases ih with ⟨h1, h2⟩ | ⟨⟨c, hc, h1⟩, q, h2, h3, h4⟩
      · refine .inl ⟨fun c hc => ?_, h2⟩
        rw [tk] at hc
        rcases List.mem_append.mp hc with hc | hc
        · exact h1 c hc
        · have : c = b := by simpa using hc
          rw [this]; exact n
      · refine .inr ⟨⟨c, by rw [tk]; exact List.mem_append_left _ hc, h1⟩, q, h2, h3, fun u => ?_⟩
        rw [← h4 u, tk]
        constructor
        · intro h c hc; exact h c (List.mem_append_left _ hc)
        · intro h c hc nc
          rcases List.mem_append.mp hc with hc | hc
          · exact h c hc nc
          · have : c = b := by simpa using hc
            rw [this] at nc
            exact absurd n nc
    · rw [if_neg n]
      have o0 := own_pos T0 n
      have mb : b ∈ bs.take j ++ [b] := List.mem_append_right _ (by simp)
      rcases ih with ⟨h1, h2⟩ | ⟨_, q, h2, h3, h4⟩
      · rw [h2]
        refine .inr ⟨⟨b, by rw [tk]; exact mb, n⟩, _, rfl, lcQ_pos o0 o0, fun u => ?_⟩
        rw [← lc_all o0 o0 u, tk]
        constructor
        · intro h; exact ⟨h b mb n, h b mb n⟩
        · rintro ⟨h, _⟩ c hc nc
          rcases List.mem_append.mp hc with hc | hc
          · exact absurd (h1 c hc) nc
          · have : c = b := by simpa using hc
            rw [this]; exact h
      · rw [h2]
        refine .inr ⟨⟨b, by rw [tk]; exact mb, n⟩, _, rfl, lcQ_pos h3 o0, fun u => ?_⟩
        rw [← lc_all h3 o0 u, ← h4 u, tk]
        constructor
        · intro h; exact ⟨fun c hc => h c (List.mem_append_left _ hc), h b mb n⟩
        · rintro ⟨g1, g2⟩ c hc nc
          rcases List.mem_append.mp hc with hc | hc
          · exact g1 c hc nc
          · have : c = b := by simpa using hc
            rw [this]; exact g2
/-- a speed is so many sixths -/
def Sx (b : Bw) : Prop := ∃ a : Int, b.u = (a : Rat) / 6 ∧ -72 ≤ a ∧ a ≤ 72
theorem own_six {T : Rat} {b : Bw} (h : Sx b) (n : b.u ≠ 0) : ∃ a : Nat, 1 ≤ a ∧ a ≤ 72 ∧ (a : Rat) * ownQ T b = 6 * T := by
  obtain ⟨a, e, a1, a2⟩ := h
  have a0 : a ≠ 0 := fun z => n (by rw [e, z]; simp; grind)
  have g : gr b.u = ((a.natAbs : Nat) : Rat) / 6 := by
    rcases Int.natAbs_eq a with w | w
    · have e2 : (a : Rat) = ((a.natAbs : Nat) : Rat) := by rw [← nQ, ← w]
      have p : (0 : Rat) < ((a.natAbs : Nat) : Rat) := by exact_mod_cast (by omega : 0 < a.natAbs)
      unfold gr
      rw [e, e2, if_neg (by grind)]
    · have e2 : (a : Rat) = -((a.natAbs : Nat) : Rat) := by rw [← nQ, ← ngQ, ← w]
      have p : (0 : Rat) < ((a.natAbs : Nat) : Rat) := by exact_mod_cast (by omega : 0 < a.natAbs)
      unfold gr
      rw [e, e2, if_pos (by grind)]
      grind
  refine ⟨a.natAbs, by omega, by omega, ?_⟩
  have p : ((a.natAbs : Nat) : Rat) ≠ 0 := by exact_mod_cast (by omega : a.natAbs ≠ 0)
  unfold ownQ
  rw [g]
  grind
/-- the law's first time is a part of six rounds -/
theorem due_six {T : Rat} (T0 : 0 < T) {bs : List Bw} (sx : ∀ b ∈ bs, Sx b) {j : Nat} (hj : j ≤ bs.length) {q : Rat} (h : dueW (bs.take j) T = some q) : ∃ k : Nat, 1 ≤ k ∧ k ≤ 72 ∧ (k : Rat) * q = 6 * T := by
  rcases due_all T0 bs j hj with ⟨_, h2⟩ | ⟨⟨b, hb, n⟩, q', h2, h3, h4⟩
  · rw [h] at h2; cases h2
  · rw [h] at h2
    cases h2
    have mt : ∀ c ∈ bs.take j, c ∈ bs := fun c hc => List.mem_of_mem_take hc
    obtain ⟨k, hk⟩ := (h4 (6 * T)).mp fun c hc nc => by
      obtain ⟨a, _, _, e⟩ := own_six (T := T) (sx c (mt c hc)) nc
      exact ⟨(a : Int), by rw [nQ, e]⟩
    obtain ⟨i, hi⟩ := (h4 q).mpr ⟨1, by simp⟩ b hb n
    obtain ⟨a, a1, a2, ea⟩ := own_six (T := T) (sx b (mt b hb)) n
    have o0 := own_pos T0 n
    have e1 : (a : Rat) * ownQ T b = ((k : Rat) * (i : Rat)) * ownQ T b := by rw [ea, hk, hi]; grind
    have e2 : (a : Rat) = (k : Rat) * (i : Rat) := by
      have e3 : ((a : Rat) - (k : Rat) * (i : Rat)) * ownQ T b = 0 := by grind
      rcases Rat.mul_eq_zero.mp e3 with z | z
      · grind
      · grind
    have e4 : (a : Int) = k * i := by
      have : (((a : Nat) : Int) : Rat) = ((k * i : Int) : Rat) := by rw [nQ, Rat.intCast_mul]; exact e2
      exact_mod_cast this
    have k0 : 0 < (k : Rat) := Rat.not_le.mp fun z => by
      have := Rat.mul_le_mul_of_nonneg_right z (Rat.le_of_lt h3)
      grind
    have k1 : 0 < k := by exact_mod_cast k0
    have i1 : 0 < i := Int.pos_of_mul_pos_right (a := k) (by omega) (by omega)
    have : k * 1 ≤ k * i := Int.mul_le_mul_of_nonneg_left (by omega) (by omega)
    refine ⟨k.toNat, by omega, by omega, ?_⟩
    have e5 : ((k.toNat : Nat) : Rat) = (k : Rat) := by rw [← nQ]; congr 1; omega
    rw [e5, hk]
theorem part_dvd : ∀ k : Nat, 1 ≤ k → k ≤ 12 → k ∣ 27720 := fun k h1 h2 => by
  have : ∀ i : Fin 13, 1 ≤ i.val → i.val ∣ 27720 := by decide
  exact this ⟨k, by omega⟩ h1
/-- the law's first time is so many rounds, and these have but small primes -/
theorem due_round {bs : List Bw} {L : Rat} {m : Int} (l12 : bs.length ≤ 12) (L0 : 0 < L) (inc : bs.Pairwise fun a b => a.p < b.p) (win : ∀ b ∈ bs, 0 < b.p ∧ b.p < L) (wt : ∀ b ∈ bs, b.m = m) {D q : Rat} (hD : dueW bs (L + L) = some D) (hq : rdW (tabW bs L) (L + L) = some q) :
    ∃ N : Nat, N ∣ 27720 ∧ D = (N : Rat) * q := by
  have T0 : 0 < L + L := by grind
  have tn : L + L ≠ 0 := by grind
  have I := tab_I bs L
  have ok : ∀ x ∈ tabW bs L, (0 < x.1 ∧ 1 ≤ x.2.length ∧ ∀ y ∈ x.2, 0 ≤ y ∧ y < L + L) ∧ ∃ b ∈ bs, b.u ≠ 0 ∧ gr b.u = x.1 := fun x hx => by
    have hy : ∀ y ∈ x.2, (0 ≤ y ∧ y < L + L) ∧ 0 < x.1 ∧ ∃ b ∈ bs, b.u ≠ 0 ∧ gr b.u = x.1 := fun y hy => by
      obtain ⟨b, hb, n, e1, e2⟩ := (I.mem x hx y).mp hy
      obtain ⟨w1, w2⟩ := win b hb
      refine ⟨?_, by rw [← e1]; exact gr_pos n, b, hb, n, e1⟩
      rw [← e2]
      exact ph_b w1 w2
    have ne := tab_ne bs L x hx
    have h0 := (hy _ (List.getElem_mem (by omega : 0 < x.2.length))).2
    exact ⟨⟨h0.1, ne, fun y h => (hy y h).1⟩, h0.2⟩
  have dall := due_all T0 bs bs.length (Nat.le_refl _)
  rw [List.take_length, hD] at dall
  rcases dall with ⟨_, z⟩ | ⟨⟨b0, hb0, n0⟩, D', e, D0, h4⟩
  · cases z
  cases e
  rcases round_all L0 inc win wt with ⟨z, _⟩ | ⟨_, q', e2, q0, h5⟩
  · exact absurd (z b0 hb0) n0
  rw [hq] at e2
  cases e2
  have own : ∀ b ∈ bs, b.u ≠ 0 → ∃ m : Int, D = (m : Rat) * ownQ (L + L) b := (h4 D).mpr ⟨1, by simp⟩
  have h6 : rmL L D bs = bs := (round_iff L0 inc win wt).mpr fun x hx => by
    obtain ⟨⟨o1, o2, o3⟩, b, hb, n, eb⟩ := ok x hx
    obtain ⟨k, hk⟩ := own b hb n
    have e3 : x.1 * D / (L + L) = (k : Rat) * 1 := by
      rw [hk]
      unfold ownQ
      rw [eb]
      have : x.1 ≠ 0 := by grind
      grind
    rw [e3]
    have H := pha_hs T0 o3
    exact H.int H.one k
  obtain ⟨N, hN⟩ := (h5 D).mp h6
  have N0 : 0 < (N : Rat) := Rat.not_le.mp fun z => by
    have := Rat.mul_le_mul_of_nonneg_right z (Rat.le_of_lt q0)
    grind
  have N1 : 0 < N := by exact_mod_cast N0
  have lt : 1 ≤ (tabW bs L).length := by
    obtain ⟨x, hx, _⟩ := I.all b0 hb0 n0
    exact List.length_pos_of_mem hx
  obtain ⟨q', e3, _, h7⟩ := rd_all T0 (fun x hx => (ok x hx).1) (tabW bs L).length lt (Nat.le_refl _)
  rw [List.take_length, hq] at e3
  cases e3
  rw [List.take_length] at h7
  have grp := (h7 q).mpr ⟨1, by simp⟩
  obtain ⟨M, hM⟩ := (h4 ((27720 : Nat) * q)).mp fun b hb n => by
    obtain ⟨x, hx, ex⟩ := I.all b hb n
    obtain ⟨⟨o1, o2, o3⟩, _⟩ := ok x hx
    obtain ⟨k, hk⟩ := grp x hx
    obtain ⟨p1, p2⟩ := pt_le T0 o3 x.2.length
    have p3 := p2 o2
    have xl : x.2.length ≤ 12 := by
      have := le_sumP _ x hx
      have := (tab_le bs L).1
      omega
    obtain ⟨c, hc⟩ := part_dvd (ptQ x.2 (L + L) x.2.length) p3 (by omega)
    refine ⟨k * (c : Nat), ?_⟩
    rw [hk]
    unfold rbQ ownQ
    have k0 : ((ptQ x.2 (L + L) x.2.length : Nat) : Rat) ≠ 0 := by exact_mod_cast (by omega : ptQ x.2 (L + L) x.2.length ≠ 0)
    rw [hc, ← ex, Rat.natCast_mul, Rat.intCast_mul, nQ, nQ]
    generalize ((ptQ x.2 (L + L) x.2.length : Nat) : Rat) = w at *
    have : x.1 ≠ 0 := by grind
    grind
  have e8 : (((27720 : Nat) : Rat) - (M : Rat) * (N : Rat)) * q = 0 := by rw [hN] at hM; grind
  have e9 : ((27720 : Nat) : Int) = M * N := by
    have : (((27720 : Nat) : Int) : Rat) = ((M * N : Int) : Rat) := by
      rw [nQ, Rat.intCast_mul]
      rcases Rat.mul_eq_zero.mp e8 with z | z
      · grind
      · grind
    exact_mod_cast this
  refine ⟨N.toNat, ?_, ?_⟩
  · have e7 : ((N.toNat : Nat) : Int) = N := by omega
    have h8 : ((N.toNat : Nat) : Int) ∣ ((27720 : Nat) : Int) := ⟨M, by rw [e9, e7, Int.mul_comm]⟩
    exact Int.ofNat_dvd.mp h8
  · have e5 : ((N.toNat : Nat) : Rat) = (N : Rat) := by rw [← nQ]; congr 1; omega
    rw [e5, hN]
/-- a part of a time leads back: the number is divided -/
theorem part_iff {bs : List Bw} {L q : Rat} (q0 : 0 < q) (h : ∀ t : Rat, rmL L t bs = bs ↔ ∃ k : Int, t = (k : Rat) * q) {n p : Nat} (p0 : 0 < p) : rmL L ((n : Rat) * q * (1 / (p : Rat))) bs = bs ↔ p ∣ n := by
  rw [h]
  have p1 : ((p : Nat) : Rat) ≠ 0 := by exact_mod_cast (by omega : p ≠ 0)
  constructor
  · rintro ⟨k, e⟩
    have e2 : ((n : Rat) - (k : Rat) * (p : Rat)) * q = 0 := by grind
    have e3 : (n : Rat) = (k : Rat) * (p : Rat) := by
      rcases Rat.mul_eq_zero.mp e2 with z | z
      · grind
      · grind
    have e4 : ((n : Nat) : Int) = k * (p : Int) := by
      have : (((n : Nat) : Int) : Rat) = ((k * (p : Int) : Int) : Rat) := by rw [nQ, Rat.intCast_mul, nQ]; exact e3
      exact_mod_cast this
    exact Int.ofNat_dvd.mp ⟨k, by rw [e4, Int.mul_comm]⟩
  · rintro ⟨c, rfl⟩
    refine ⟨(c : Nat), ?_⟩
    rw [nQ, Rat.natCast_mul]
    grind
/-- nothing left -/
theorem strip_one {n : Nat} (h : n ∣ 27720) (h2 : ¬ 2 ∣ n) (h3 : ¬ 3 ∣ n) (h5 : ¬ 5 ∣ n) (h7 : ¬ 7 ∣ n) (h11 : ¬ 11 ∣ n) : n = 1 := by
  have co : ∀ p : Nat, (∀ d, d ∣ p → d = 1 ∨ d = p) → ¬ p ∣ n → Nat.Coprime n p := fun p hp hn => by
    rcases hp _ (Nat.gcd_dvd_right n p) with e | e
    · exact e
    · exact absurd (e ▸ Nat.gcd_dvd_left n p) hn
  have pr : ∀ p : Nat, p ≤ 11 → 0 < p → (∀ i : Fin 12, i.val ∣ p → i.val = 1 ∨ i.val = p) → ∀ d, d ∣ p → d = 1 ∨ d = p := fun p hp p0 h d hd => h ⟨d, by have := Nat.le_of_dvd p0 hd; omega⟩ hd
  have c2 := co 2 (pr 2 (by omega) (by omega) (by decide)) h2
  have c3 := co 3 (pr 3 (by omega) (by omega) (by decide)) h3
  have c5 := co 5 (pr 5 (by omega) (by omega) (by decide)) h5
  have c7 := co 7 (pr 7 (by omega) (by omega) (by decide)) h7
  have c11 := co 11 (pr 11 (by omega) (by omega) (by decide)) h11
  have all : Nat.Coprime n (2 * 2 * 2 * (3 * 3) * 5 * 7 * 11) := (((((c2.mul_right c2).mul_right c2).mul_right (c3.mul_right c3)).mul_right c5).mul_right c7).mul_right c11
  exact Nat.Coprime.eq_one_of_dvd all h
end VS
set_option Elab.async false
set_option linter.all false
set_option maxRecDepth 100000
set_option maxHeartbeats 4000000
/-! K57: the round. Own work. -/
namespace VS
open PySem PySem.Spec PyProof.Rows
open L2 (V Hp Cx WX)
structure RmOk (bs : List Bw) (L : Rat) : Prop where
  ne : 1 ≤ bs.length
  le : bs.length ≤ 12
  sz : ∀ b ∈ bs, Sm 80 b.p ∧ Sm 80 b.u
  wt : ∃ m : Int, 1 ≤ m ∧ m ≤ 1000 ∧ ∀ b ∈ bs, b.m = m
  inc : bs.Pairwise fun a b => a.p < b.p
  win : ∀ b ∈ bs, 0 < b.p ∧ b.p < L
  sl : Sm 80 L
theorem RmOk.l0 {bs : List Bw} {L : Rat} (h : RmOk bs L) : 0 < L := by
  obtain ⟨b, hb⟩ := List.exists_mem_of_length_pos (l := bs) (by have := h.ne; omega)
  have := h.win b hb
  grind
theorem RmOk.w {bs : List Bw} {L t : Rat} (h : RmOk bs L) (ht : Sm 700 t) : RmW bs L t := ⟨h.ne, by have := h.le; omega, fun b hb => ⟨(h.sz b hb).1.mono (by decide), (h.sz b hb).2.mono (by decide)⟩, h.sl.mono (by decide), ht, h.l0, h.inc⟩
theorem RmOk.out {bs : List Bw} {L : Rat} (h : RmOk bs L) : out bs L = none := by
  unfold VS.out
  rw [List.findIdx?_eq_none_iff]
  intro b hb
  obtain ⟨h1, h2⟩ := h.win b hb
  simp [h1, h2]
def SU (u : Rat) : Prop := Sm 5 u ∧ ∃ a : Int, u = (a : Rat) / 6 ∧ -72 ≤ a ∧ a ≤ 72
def F__law_smallX : FS := fun ss K _ => match ss with
  | [.l [.int _]] => ∀ (q : Rat) n', Sm 5 q → (∃ a : Int, q = (a : Rat) / 6 ∧ -72 ≤ a ∧ a ≤ 72) → K (.v (frD q)) [.l [.int n']]
  | _ => False
theorem m__law_smallX : MonoF F__law_smallX := fun ss K K' E E' hk he h => by
  unfold F__law_smallX at h ⊢
  split at h
  · exact fun q n' a b => hk _ _ (h q n' a b)
  · exact h
def F__law_within : FS := fun ss K _ => match ss with
  | [.l [.int _]] => ∀ bs L n', RmOk bs L → (∀ b ∈ bs, Sx b) → K (.m (.t [.l (bs.map wD), .v (frD L)])) [.l [.int n']]
  | _ => False
theorem m__law_within : MonoF F__law_within := fun ss K K' E E' hk he h => by
  unfold F__law_within at h ⊢
  split at h
  · exact fun bs L n' a b => hk _ _ (h bs L n' a b)
  · exact h
/-- whole rounds less -/
def shW (L t : Rat) (b : Bw) : Bw := ⟨b.p - (fl (b.u * t / (L + L)) : Rat) * (L + L), b.u, b.m⟩
def F__law_folded : FS := fun ss K _ => ∃ (b : Bw) (L t : Rat), ss = [.v (wD (shW L t b)), .v (frD L), .v (frD t)] ∧ (0 < b.p ∧ b.p < L ∧ Sm 90 b.p ∧ Sm 90 b.u ∧ Sm 90 L ∧ Sm 250 t) ∧ K (.v (wD (fw L t b))) []
theorem m__law_folded : MonoF F__law_folded := fun ss K K' E E' hk he ⟨b, L, t, h1, h2, h3⟩ => ⟨b, L, t, h1, h2, hk _ _ h3⟩
def F__law_in_order : FS := fun ss K _ => ∃ (a b : Bw), ss = [.v (wD a), .v (wD b)] ∧ (WOk a ∧ WOk b) ∧ K (.v (.bl (decide (ltW a b)))) []
theorem m__law_in_order : MonoF F__law_in_order := fun ss K K' E E' hk he ⟨a, b, h1, h2, h3⟩ => ⟨a, b, h1, h2, hk _ _ h3⟩
def F__law_room : FS := fun ss K _ => ∃ (st : Bool) (bs : List Bw) (L t : Rat), ss = [.v (.lst st ((bs.map (shW L t)).map wD)), .v (frD L), .v (frD t)] ∧ (RmOk bs L ∧ Sm 250 t) ∧ K (.m (.l ((rmL L t bs).map wD))) []
theorem m__law_room : MonoF F__law_room := fun ss K K' E E' hk he ⟨st, bs, L, t, h1, h2, h3⟩ => ⟨st, bs, L, t, h1, h2, hk _ _ h3⟩
def F__law_part : FS := fun ss K _ => ∃ a b : Int, ss = [.v (.int a), .v (.int b)] ∧ (0 ≤ a ∧ 0 ≤ b) ∧ K (.v (.int (Int.gcd a b : Int))) []
theorem m__law_part : MonoF F__law_part := fun ss K K' E E' hk he ⟨a, b, h1, h2, h3⟩ => ⟨a, b, h1, h2, hk _ _ h3⟩
def F__law_common : FS := fun ss K _ => ∃ a b : Rat, ss = [.v (frD a), .v (frD b)] ∧ (0 < a ∧ 0 < b ∧ Sm 400 a ∧ Sm 400 b) ∧ K (.v (frD (lcQ a b))) []
theorem m__law_common : MonoF F__law_common := fun ss K K' E E' hk he ⟨a, b, h1, h2, h3⟩ => ⟨a, b, h1, h2, hk _ _ h3⟩
def F__law_is_round : FS := fun ss K _ => ∃ (st : Bool) (bs : List Bw) (L t : Rat), ss = [.v (.lst st (bs.map wD)), .v (frD L), .v (frD t)] ∧ (RmOk bs L ∧ Sm 250 t) ∧ (∀ r : Bool, (r = true ↔ rmL L t bs = bs) → K (.v (.bl r)) [])
theorem m__law_is_round : MonoF F__law_is_round := fun ss K K' E E' hk he ⟨st, bs, L, t, h1, h2, h3⟩ => ⟨st, bs, L, t, h1, h2, fun r hr => hk _ _ (h3 r hr)⟩
def F__law_due : FS := fun ss K _ => ∃ (st : Bool) (bs : List Bw) (L : Rat), ss = [.v (.lst st (bs.map wD)), .v (frD L)] ∧ (RmOk bs L ∧ ∀ b ∈ bs, Sx b) ∧ K (.v (rdD (rdW (tabW bs L) (L + L)))) []
theorem m__law_due : MonoF F__law_due := fun ss K K' E E' hk he ⟨st, bs, L, h1, h2, h3⟩ => ⟨st, bs, L, h1, h2, hk _ _ h3⟩
def sf__law_smallX : SS := (retS (callP F__law_fit [] (consA false (bin true (callI F__law_take 0 (hereA 0 (consA true (cE (.int 25)) nilA))) (cE (.int 12)) (intR (fun _ _ => True) fun i j => .int (i - j))) (consA true (bin false (lstE (consA true (cE (.int 1)) (consA true (cE (.int 1)) (consA true (cE (.int 2)) (consA true (cE (.int 3)) nilA))))) (callI F__law_take 0 (hereA 0 (consA true (cE (.int 4)) nilA))) ixR) nilA))))
def sf__law_within_r1 : SS := (seqS (ifS (andT (bT (vE 3)) (bT (bin true (callI F__law_take 0 (hereA 0 (consA true (cE (.int 2)) nilA))) (cE (.int 1)) (eqR false)))) (setS 6 true (callP F__law_minus [] (consA true (vE 6) (consA true (callP F__law_times [] (consA true (vE 4) (consA true (tupE (consA true (cE (.int 1)) (consA true (cE (.int 2)) nilA))) nilA))) nilA)))) nxS)
  (retS (tupE (consA true (mE 7) (consA true (vE 6) nilA)))))
def sf__law_within : SS := (seqS (setS 1 true (bin false (cE (.int 1)) (callI F__law_take 0 (hereA 0 (consA true (bin false (lstE (consA true (cE (.int 3)) (consA true (cE (.int 1000)) nilA))) (callI F__law_take 0 (hereA 0 (consA true (cE (.int 2)) nilA))) ixR) nilA))) addR))
  (seqS (setS 2 true (bin false (cE (.int 1)) (callI F__law_take 0 (hereA 0 (consA true (bin false (lstE (consA true (cE (.int 3)) (consA true (cE (.int 6)) (consA true (cE (.int 12)) nilA)))) (callI F__law_take 0 (hereA 0 (consA true (cE (.int 3)) nilA))) ixR) nilA))) addR))
  (seqS (setS 3 true (bin true (callI F__law_take 0 (hereA 0 (consA true (cE (.int 3)) nilA))) (cE (.int 2)) (eqR false)))
  (seqS (setS 4 true (callP F__law_fit [] (consA false (bin false (cE (.int 1)) (callI F__law_take 0 (hereA 0 (consA true (cE (.int 6)) nilA))) addR) (consA true (bin false (cE (.int 1)) (callI F__law_take 0 (hereA 0 (consA true (cE (.int 3)) nilA))) addR) nilA))))
  (seqS (setS 5 true (lstE (consA false (callI F__law_smallX 0 (hereA 0 nilA)) (consA true (callI F__law_smallX 0 (hereA 0 nilA)) nilA))))
  (seqS (setS 6 true (vE 4))
  (seqS (setS 7 false (lstE nilA))
  (seqS (forS (itR1 (consA true (vE 2) nilA)) (gN 8 true) (seqS (setS 9 true (bin false (vE 5) (callI F__law_take 0 (hereA 0 (consA true (cE (.int 2)) nilA))) ixR))
  (seqS (ifS (notT (bT (vE 3))) (seqS (setS 9 true (callI F__law_smallX 0 (hereA 0 nilA)))
  (setS 4 true (callP F__law_fit [] (consA false (bin false (cE (.int 1)) (callI F__law_take 0 (hereA 0 (consA true (cE (.int 6)) nilA))) addR) (consA true (bin false (cE (.int 1)) (callI F__law_take 0 (hereA 0 (consA true (cE (.int 3)) nilA))) addR) nilA))))) nxS)
  (seqS (exprS (methL 7 appL (consA true (tupE (consA true (vE 6) (consA true (vE 9) (consA true (vE 1) nilA)))) nilA)))
  (setS 6 true (callP F__law_plus [] (consA true (vE 6) (consA true (vE 4) nilA))))))))
  sf__law_within_r1))))))))
def sf__law_folded_r1 : SS := (seqS (ifS (bT (bin true (vE 3) (tupE (consA true (cE (.int 0)) (consA true (cE (.int 1)) nilA))) (eqR false))) (setS 4 true (tupE (consA true (callV absC (consA true (bin true (vE 4) (cE (.int 0)) ixR) nilA)) (consA true (bin true (vE 4) (cE (.int 1)) ixR) nilA)))) nxS)
  (seqS (ifS (bT (bin true (vE 3) (vE 1) (eqR false))) (setS 4 true (tupE (consA true (bin true (cE (.int 0)) (callV absC (consA true (bin true (vE 4) (cE (.int 0)) ixR) nilA)) (intR (fun _ _ => True) fun i j => .int (i - j))) (consA true (bin true (vE 4) (cE (.int 1)) ixR) nilA)))) nxS)
  (retS (tupE (consA true (vE 3) (consA true (vE 4) (consA true (bin true (vE 0) (cE (.int 2)) ixR) nilA)))))))
def sf__law_folded : SS := (seqS (setS 3 true (callP F__law_plus [] (consA true (bin true (vE 0) (cE (.int 0)) ixR) (consA true (callP F__law_times [] (consA true (bin true (vE 0) (cE (.int 1)) ixR) (consA true (vE 2) nilA))) nilA))))
  (seqS (setS 4 true (bin true (vE 0) (cE (.int 1)) ixR))
  (seqS (whileS (orT (bT (callP F__law_less [] (consA true (vE 3) (consA true (tupE (consA true (cE (.int 0)) (consA true (cE (.int 1)) nilA))) nilA)))) (bT (callP F__law_less [] (consA true (vE 1) (consA true (vE 3) nilA))))) (seqS (ifS (bT (callP F__law_less [] (consA true (vE 3) (consA true (tupE (consA true (cE (.int 0)) (consA true (cE (.int 1)) nilA))) nilA)))) (setS 3 true (tupE (consA true (bin true (cE (.int 0)) (bin true (vE 3) (cE (.int 0)) ixR) (intR (fun _ _ => True) fun i j => .int (i - j))) (consA true (bin true (vE 3) (cE (.int 1)) ixR) nilA)))) (setS 3 true (callP F__law_minus [] (consA true (callP F__law_plus [] (consA true (vE 1) (consA true (vE 1) nilA))) (consA true (vE 3) nilA)))))
  (setS 4 true (tupE (consA true (bin true (cE (.int 0)) (bin true (vE 4) (cE (.int 0)) ixR) (intR (fun _ _ => True) fun i j => .int (i - j))) (consA true (bin true (vE 4) (cE (.int 1)) ixR) nilA))))))
  sf__law_folded_r1)))
def sf__law_in_order : SS := (seqS (ifS (bT (bin true (bin true (vE 0) (cE (.int 0)) ixR) (bin true (vE 1) (cE (.int 0)) ixR) (eqR false))) (retS (callP F__law_less [] (consA true (bin true (vE 0) (cE (.int 1)) ixR) (consA true (bin true (vE 1) (cE (.int 1)) ixR) nilA)))) nxS)
  (retS (callP F__law_less [] (consA true (bin true (vE 0) (cE (.int 0)) ixR) (consA true (bin true (vE 1) (cE (.int 0)) ixR) nilA)))))
def sf__law_room_r1 : SS := (exprS (methL 3 insL (consA true (vE 6) (consA true (vE 5) nilA))))
def sf__law_room_r2 : SS := (retS (mE 3))
def sf__law_room : SS := (seqS (setS 3 false (lstE nilA))
  (seqS (forS (itS (vE 0)) (gN 4 true) (seqS (setS 5 true (callP F__law_folded [] (consA true (vE 4) (consA true (vE 1) (consA true (vE 2) nilA)))))
  (seqS (setS 6 true (cE (.int 0)))
  (seqS (whileS (andT (bT (bin true (vE 6) (callV lenC (consA true (rE 3) nilA)) ltR)) (bT (callP F__law_in_order [] (consA true (bin true (rE 3) (vE 6) ixR) (consA true (vE 5) nilA))))) (setS 6 true (bin true (vE 6) (cE (.int 1)) addR)))
  sf__law_room_r1))))
  sf__law_room_r2))
def sf__law_part : SS := (seqS (whileS (bT (bin true (vE 1) (cE (.int 0)) gtR)) (parS 0 1 (consA true (vE 1) (consA true (bin true (vE 0) (vE 1) (intR (fun _ j => j ≠ 0) fun i j => .int (i.fmod j))) nilA))))
  (retS (vE 0)))
def sf__law_common : SS := (seqS (setS 2 true (bin true (bin true (bin true (vE 0) (cE (.int 0)) ixR) (bin true (vE 1) (cE (.int 0)) ixR) (intR MulOk fun i j => .int (i * j))) (callP F__law_part [] (consA true (bin true (vE 0) (cE (.int 0)) ixR) (consA true (bin true (vE 1) (cE (.int 0)) ixR) nilA))) (intR DivOk fun i j => .int (i.fdiv j))))
  (retS (callP F__law_fit [] (consA true (vE 2) (consA true (callP F__law_part [] (consA true (bin true (vE 0) (cE (.int 1)) ixR) (consA true (bin true (vE 1) (cE (.int 1)) ixR) nilA))) nilA)))))
def sf__law_is_round : SS := (seqS (setS 3 true (callP F__law_plus [] (consA true (vE 1) (consA true (vE 1) nilA))))
  (seqS (setS 4 false (lstE nilA))
  (seqS (forS (itS (vE 0)) (gN 5 true) (seqS (setS 6 true (callP F__law_over [] (consA true (callP F__law_times [] (consA true (bin true (vE 5) (cE (.int 1)) ixR) (consA true (vE 2) nilA))) (consA true (vE 3) nilA))))
  (seqS (setS 7 true (callP F__law_times [] (consA true (tupE (consA true (bin true (bin true (vE 6) (cE (.int 0)) ixR) (bin true (vE 6) (cE (.int 1)) ixR) (intR DivOk fun i j => .int (i.fdiv j))) (consA true (cE (.int 1)) nilA))) (consA true (vE 3) nilA))))
  (exprS (methL 4 appL (consA true (tupE (consA true (callP F__law_minus [] (consA true (bin true (vE 5) (cE (.int 0)) ixR) (consA true (vE 7) nilA))) (consA true (bin true (vE 5) (cE (.int 1)) ixR) (consA true (bin true (vE 5) (cE (.int 2)) ixR) nilA)))) nilA))))))
  (retS (bin true (callP F__law_room [] (consA true (rE 4) (consA true (vE 1) (consA true (vE 2) nilA)))) (vE 0) (eqR false))))))
def sf__law_due : SS := (seqS (setS 2 true (cE .non))
  (seqS (forS (itS (vE 0)) (gN 3 true) (ifS (bT (bin true (bin true (bin true (vE 3) (cE (.int 1)) ixR) (cE (.int 0)) ixR) (cE (.int 0)) (eqR true))) (seqS (setS 4 true (callP F__law_over [] (consA true (callP F__law_plus [] (consA true (vE 1) (consA true (vE 1) nilA))) (consA true (tupE (consA true (callV absC (consA true (bin true (bin true (vE 3) (cE (.int 1)) ixR) (cE (.int 0)) ixR) nilA)) (consA true (bin true (bin true (vE 3) (cE (.int 1)) ixR) (cE (.int 1)) ixR) nilA))) nilA))))
  (seqS (ifS (bT (bin true (vE 2) (cE .non) (isNR false))) (setS 2 true (vE 4)) nxS)
  (setS 2 true (callP F__law_common [] (consA true (vE 2) (consA true (vE 4) nilA)))))) nxS))
  (seqS (ifS (bT (bin true (vE 2) (cE .non) (isNR false))) (retS (cE .non)) nxS)
  (seqS (forS (itS (lstE (consA true (cE (.int 2)) (consA true (cE (.int 3)) (consA true (cE (.int 5)) (consA true (cE (.int 7)) (consA true (cE (.int 11)) nilA))))))) (gN 5 true) (whileS (bT (callP F__law_is_round [] (consA true (vE 0) (consA true (vE 1) (consA true (callP F__law_times [] (consA true (vE 2) (consA true (tupE (consA true (cE (.int 1)) (consA true (vE 5) nilA))) nilA))) nilA))))) (setS 2 true (callP F__law_times [] (consA true (vE 2) (consA true (tupE (consA true (cE (.int 1)) (consA true (vE 5) nilA))) nilA))))))
  (retS (vE 2))))))
def sf_law : SS := (seqS (forS (itR1 (consA true (callV (mmC true) (consA true (cE (.int 1)) (consA true (callV (mmC false) (consA true (callV lenC (consA true (vE 0) nilA)) (consA true (cE (.int 2)) nilA))) nilA))) nilA)) (gN 1 true) (seqS (setS 2 false (callP F__law_box [] (consA true (vE 0) (consA true (vE 1) nilA))))
  (seqS (asgS (gT 2 (gCons (gN 3 true) (gCons (gN 4 true) gNil))) (callI F__law_within 2 (hereA 2 nilA)))
  (seqS (setS 5 true (callP F__law_due [] (consA true (vE 3) (consA true (vE 4) nilA))))
  (seqS (ifS (bT (bin true (callP F_round_of [] (consA true (vE 3) (consA true (vE 4) nilA))) (vE 5) (eqR true))) (retS (cE (.bl false))) nxS)
  (seqS (setS 6 true (compE [7] (itS (vE 3)) (gN 7 true) yesT (tupE (consA true (bin true (vE 7) (cE (.int 0)) ixR) (consA true (tupE (consA true (cE (.int 0)) (consA true (cE (.int 1)) nilA))) (consA true (bin true (vE 7) (cE (.int 2)) ixR) nilA))))))
  (ifS (orT (bT (bin true (callP F_round_of [] (consA true (vE 6) (consA true (vE 4) nilA))) (cE .non) (isNR true))) (bT (bin true (callP F_round_of [] (consA true (vE 3) (consA true (vE 4) nilA))) (vE 5) (eqR true)))) (retS (cE (.bl false))) nxS)))))))
  (retS (cE (.bl true))))
theorem num_neg {q : Rat} : q.num < 0 ↔ q < 0 := by
  have h := Rat.num_nonneg (q := q)
  constructor
  · intro x
    refine Rat.not_le.mp fun z => ?_
    have := h.mpr z
    omega
  · intro x
    refine Int.not_le.mp fun z => ?_
    have := h.mp z
    grind
theorem neg_fr (u : Rat) : D.tup [.int (-u.num), .int (u.den : Nat)] = frD (-u) := by
  show _ = D.tup [.int (-u).num, .int (((-u).den : Nat) : Int)]
  rw [Rat.neg_num, Rat.neg_den]
theorem abs_fr (u : Rat) : D.tup [.int (if u.num < 0 then -u.num else u.num), .int (u.den : Nat)] = frD (gr u) := by
  unfold gr
  by_cases c : u < 0
  · rw [if_pos c, if_pos (num_neg.mpr c)]; exact neg_fr u
  · rw [if_neg c, if_neg fun z => c (num_neg.mp z)]
theorem nab_fr (u : Rat) : D.tup [.int (-if u.num < 0 then -u.num else u.num), .int (u.den : Nat)] = frD (-gr u) := by
  unfold gr
  by_cases c : u < 0
  · rw [if_pos c, if_pos (num_neg.mpr c), Int.neg_neg]
    have : -(-u) = u := by grind
    rw [this]
  · rw [if_neg c, if_neg fun z => c (num_neg.mp z)]; exact neg_fr u
theorem to__law_in_order : ∀ ss K E, F__law_in_order ss K E → defF [false, false] 2 sf__law_in_order ss K E := fun ss K E h => by
  obtain ⟨a, b, rfl, ⟨⟨h1, h2⟩, h3, h4⟩, h⟩ := h
  by_cases e : a.p = b.p
  · have e2 : decide (ltW a b) = decide (a.u < b.u) := by
      apply decide_eq_decide.mpr
      unfold ltW
      grind
    rw [e2] at h
    simp [sf__law_in_order, cE, vE, bE, rE, fE, mE, bin, nilA, consA, bT, andT, orT, notT, tupE, lstE, allV, allM, okB, intR, addR, asL, asT, asD, eqR, eqD_nn, eqD_bb, eqD_ii, eqD_ss, eqD_tt, eqD_ll, eqD_bi, eqD_ib, eqD_nt, eqD_tn, eqD_it, eqD_ti, eqD_ni, eqD_in, eqDs_nn, eqDs_cc, eqDs_nc, eqDs_cn, cmpD, cmpDs, depD, depDs, isNon, isNR, chainE, tvE, andV, orV, notV, ifE, slEV, ixR, callV, lenC, isiC, tyN, pick, retEV, callP, argD, argDs, seqS, bkS, ctS, exprS, retS, retNS, ifS, evSl, setS, SK.loop, gN, gNil, gCons, gT, asgS, parS, defF, defK, raiseS, absC, divmodC, mmC, stL, itL, itT, itR1, itR2, itE, shL, itZ, itV, forS, evD, methL, appL, clrL, popL, insL, trL, extL, setixS, argS, argSs, callI, callN, hereA, nextA, negE, itS, wipeR, compE, compD, yesT, seqD, listC, tupC, numd, zipd, nxS, frSl, retSl, retSls, retOk, retOks, tryAsS, tryOnlyS, lookB, kinE, xfE, lookF, frzE, isTR, isTB, allC, blsD, gU, raiseIS, at0, at1, at2, at3, lrE, sortC, intC, intsD, slE, intO, cutD, borS, borT, bkR, okRho, eqXR, slX, addT, repT, tryMixS, mixH, suK, suR, suL, wD, rat_eq, e, F__law_less, F_under, Rat.den_nz, nd]
    (repeat' with_reducible apply And.intro) <;> try first | assumption | exact Sm.n (by assumption) | exact Sm.d (by assumption) | exact Si.mono (by assumption) (by decide) | exact dpos _ | exact Rat.nz _ | exact Rat.den_nz _
  · have e2 : decide (ltW a b) = decide (a.p < b.p) := by
      apply decide_eq_decide.mpr
      unfold ltW
      grind
    rw [e2] at h
    have e4 : ¬ (a.p.num = b.p.num ∧ (a.p.den : Int) = (b.p.den : Int)) := fun z => e (rat_eq.mp z)
    simp [sf__law_in_order, cE, vE, bE, rE, fE, mE, bin, nilA, consA, bT, andT, orT, notT, tupE, lstE, allV, allM, okB, intR, addR, asL, asT, asD, eqR, eqD_nn, eqD_bb, eqD_ii, eqD_ss, eqD_tt, eqD_ll, eqD_bi, eqD_ib, eqD_nt, eqD_tn, eqD_it, eqD_ti, eqD_ni, eqD_in, eqDs_nn, eqDs_cc, eqDs_nc, eqDs_cn, cmpD, cmpDs, depD, depDs, isNon, isNR, chainE, tvE, andV, orV, notV, ifE, slEV, ixR, callV, lenC, isiC, tyN, pick, retEV, callP, argD, argDs, seqS, bkS, ctS, exprS, retS, retNS, ifS, evSl, setS, SK.loop, gN, gNil, gCons, gT, asgS, parS, defF, defK, raiseS, absC, divmodC, mmC, stL, itL, itT, itR1, itR2, itE, shL, itZ, itV, forS, evD, methL, appL, clrL, popL, insL, trL, extL, setixS, argS, argSs, callI, callN, hereA, nextA, negE, itS, wipeR, compE, compD, yesT, seqD, listC, tupC, numd, zipd, nxS, frSl, retSl, retSls, retOk, retOks, tryAsS, tryOnlyS, lookB, kinE, xfE, lookF, frzE, isTR, isTB, allC, blsD, gU, raiseIS, at0, at1, at2, at3, lrE, sortC, intC, intsD, slE, intO, cutD, borS, borT, bkR, okRho, eqXR, slX, addT, repT, tryMixS, mixH, suK, suR, suL, wD, F__law_less, F_under, Rat.den_nz, nd]
    rw [if_neg e4]
    (repeat' with_reducible apply And.intro) <;> try first | assumption | exact Sm.n (by assumption) | exact Sm.d (by assumption) | exact Si.mono (by assumption) (by decide) | exact dpos _ | exact Rat.nz _ | exact Rat.den_nz _
theorem to__law_smallX : ∀ ss K E, F__law_smallX ss K E → defF [true] 1 sf__law_smallX ss K E := fun ss K E h => by
  unfold F__law_smallX at h
  split at h
  · rename_i n
    simp [sf__law_smallX, cE, vE, bE, rE, fE, mE, bin, nilA, consA, bT, andT, orT, notT, tupE, lstE, allV, allM, okB, intR, addR, asL, asT, asD, eqR, eqD_nn, eqD_bb, eqD_ii, eqD_ss, eqD_tt, eqD_ll, eqD_bi, eqD_ib, eqD_nt, eqD_tn, eqD_it, eqD_ti, eqD_ni, eqD_in, eqDs_nn, eqDs_cc, eqDs_nc, eqDs_cn, cmpD, cmpDs, depD, depDs, isNon, isNR, chainE, tvE, andV, orV, notV, ifE, slEV, ixR, callV, lenC, isiC, tyN, pick, retEV, callP, argD, argDs, seqS, bkS, ctS, exprS, retS, retNS, ifS, evSl, setS, SK.loop, gN, gNil, gCons, gT, asgS, parS, defF, defK, raiseS, absC, divmodC, mmC, stL, itL, itT, itR1, itR2, itE, shL, itZ, itV, forS, evD, methL, appL, clrL, popL, insL, trL, extL, setixS, argS, argSs, callI, callN, hereA, nextA, negE, itS, wipeR, compE, compD, yesT, seqD, listC, tupC, numd, zipd, nxS, frSl, retSl, retSls, retOk, retOks, tryAsS, tryOnlyS, lookB, kinE, xfE, lookF, frzE, isTR, isTB, allC, blsD, gU, raiseIS, at0, at1, at2, at3, lrE, sortC, intC, intsD, slE, intO, cutD, borS, borT, bkR, okRho, eqXR, slX, addT, repT, tryMixS, mixH, suK, suR, suL, F__law_take, F__law_fit]
    have l8 : ∀ {m : Int} {n : Nat}, Si n m → n ≤ 8000 → Si 8000 m := fun h hn => h.mono hn
    refine ⟨l8 (Si.lit (n := 5)) (by decide), fun x x0 x1 => ⟨l8 (Si.lit (n := 3)) (by decide), fun y n' y0 y1 => ?_⟩⟩
    have hM : ∃ M : Int, L2.atI [D.int 1, D.int 1, D.int 2, D.int 3] y = some (.int M) ∧ 0 < M ∧ M ≤ 3 := by
      have : y = 0 ∨ y = 1 ∨ y = 2 ∨ y = 3 := by omega
      rcases this with rfl | rfl | rfl | rfl
      · exact ⟨1, at0, by decide, by decide⟩
      · exact ⟨1, at1, by decide, by decide⟩
      · exact ⟨2, at2, by decide, by decide⟩
      · exact ⟨3, at3, by decide, by decide⟩
    obtain ⟨M, hM, M0, M1⟩ := hM
    rw [hM]
    simp [cE, vE, bE, rE, fE, mE, bin, nilA, consA, bT, andT, orT, notT, tupE, lstE, allV, allM, okB, intR, addR, asL, asT, asD, eqR, eqD_nn, eqD_bb, eqD_ii, eqD_ss, eqD_tt, eqD_ll, eqD_bi, eqD_ib, eqD_nt, eqD_tn, eqD_it, eqD_ti, eqD_ni, eqD_in, eqDs_nn, eqDs_cc, eqDs_nc, eqDs_cn, cmpD, cmpDs, depD, depDs, isNon, isNR, chainE, tvE, andV, orV, notV, ifE, slEV, ixR, callV, lenC, isiC, tyN, pick, retEV, callP, argD, argDs, seqS, bkS, ctS, exprS, retS, retNS, ifS, evSl, setS, SK.loop, gN, gNil, gCons, gT, asgS, parS, defF, defK, raiseS, absC, divmodC, mmC, stL, itL, itT, itR1, itR2, itE, shL, itZ, itV, forS, evD, methL, appL, clrL, popL, insL, trL, extL, setixS, argS, argSs, callI, callN, hereA, nextA, negE, itS, wipeR, compE, compD, yesT, seqD, listC, tupC, numd, zipd, nxS, frSl, retSl, retSls, retOk, retOks, tryAsS, tryOnlyS, lookB, kinE, xfE, lookF, frzE, isTR, isTB, allC, blsD, gU, raiseIS, at0, at1, at2, at3, lrE, sortC, intC, intsD, slE, intO, cutD, borS, borT, bkR, okRho, eqXR, slX, addT, repT, tryMixS, mixH, suK, suR, suL, F__law_fit]
    have e0 : M ≠ 0 := by omega
    have := sm4k (k := 5) (a := x - 12) (b := M) (by unfold Si; omega) (by unfold Si; omega) e0
    rw [Rat.intCast_sub] at this
    refine ⟨⟨e0, by unfold Si; omega⟩, h _ n' this ?_⟩
    have m6 : (M : Rat) ≠ 0 := by exact_mod_cast e0
    have e6 : ((x - 12 : Int) : Rat) = (x : Rat) - ((12 : Int) : Rat) := Rat.intCast_sub ..
    have : M = 1 ∨ M = 2 ∨ M = 3 := by omega
    rcases this with rfl | rfl | rfl
    · refine ⟨6 * (x - 12), ?_, by omega, by omega⟩
      rw [Rat.intCast_mul, e6]
      have : ((6 : Int) : Rat) = 6 := rfl
      have : ((1 : Int) : Rat) = 1 := rfl
      grind
    · refine ⟨3 * (x - 12), ?_, by omega, by omega⟩
      rw [Rat.intCast_mul, e6]
      have : ((3 : Int) : Rat) = 3 := rfl
      have : ((2 : Int) : Rat) = 2 := rfl
      grind
    · refine ⟨2 * (x - 12), ?_, by omega, by omega⟩
      rw [Rat.intCast_mul, e6]
      have : ((3 : Int) : Rat) = 3 := rfl
      have : ((2 : Int) : Rat) = 2 := rfl
      grind
  · exact h.elim
theorem to__law_room : ∀ ss K E, F__law_room ss K E → defF [false, false, false] 7 sf__law_room ss K E := fun ss K E h => by
  obtain ⟨st, bs, L, t, rfl, ⟨ok, ht⟩, h⟩ := h
  have hl := ok.le
  have rw_ := ok.w (ht.mono (m := 700) (by decide))
  have ap := fw_apart rw_ ok.out
  simp [sf__law_room, cE, vE, bE, rE, fE, mE, bin, nilA, consA, bT, andT, orT, notT, tupE, lstE, allV, allM, okB, intR, addR, asL, asT, asD, eqR, eqD_nn, eqD_bb, eqD_ii, eqD_ss, eqD_tt, eqD_ll, eqD_bi, eqD_ib, eqD_nt, eqD_tn, eqD_it, eqD_ti, eqD_ni, eqD_in, eqDs_nn, eqDs_cc, eqDs_nc, eqDs_cn, cmpD, cmpDs, depD, depDs, isNon, isNR, chainE, tvE, andV, orV, notV, ifE, slEV, ixR, callV, lenC, isiC, tyN, pick, retEV, callP, argD, argDs, seqS, bkS, ctS, exprS, retS, retNS, ifS, evSl, setS, SK.loop, gN, gNil, gCons, gT, asgS, parS, defF, defK, raiseS, absC, divmodC, mmC, stL, itL, itT, itR1, itR2, itE, shL, itZ, itV, forS, evD, methL, appL, clrL, popL, insL, trL, extL, setixS, argS, argSs, callI, callN, hereA, nextA, negE, itS, wipeR, compE, compD, yesT, seqD, listC, tupC, numd, zipd, nxS, frSl, retSl, retSls, retOk, retOks, tryAsS, tryOnlyS, lookB, kinE, xfE, lookF, frzE, isTR, isTB, allC, blsD, gU, raiseIS, at0, at1, at2, at3, lrE, sortC, intC, intsD, slE, intO, cutD, borS, borT, bkR, okRho, eqXR, slX, addT, repT, tryMixS, mixH, suK, suR, suL]
  refine loop_inv (fun j ρ => ∃ x4 x5 x6, ρ = [.v (.lst st ((bs.map (shW L t)).map wD)), .v (frD L), .v (frD t), .l (((rank 0 [] ((bs.map (fw L t)).take j)).map (·.1)).map wD), x4, x5, x6]) ⟨.no, .no, .no, by simp [rank]⟩ ?_ ?_
  · rintro j e ρ K2 he ⟨x4, x5, x6, rfl⟩ next
    rw [List.getElem?_map] at he
    obtain ⟨b, hb, rfl⟩ := Option.map_eq_some_iff.mp he
    have mb := List.mem_of_getElem? hb
    have hbm : (bs.map (fw L t))[j]? = some (fw L t b) := by rw [List.getElem?_map, hb]; rfl
    have wk : ∀ b ∈ bs.map (fw L t), WOk b := fun b hb => by
      obtain ⟨c, hc, rfl⟩ := List.mem_map.mp hb
      exact (fw_ok rw_ c hc).2.2
    have hj : j < (bs.map (fw L t)).length := by have := (List.getElem?_eq_some_iff.mp hb).1; simpa using this
    have st0 := rank_srt ap j (by omega)
    have ra := rank_apart ap hbm
    have rs := rank_step hbm
    have hxs : ∀ x ∈ rank 0 [] ((bs.map (fw L t)).take j), WOk x.1 := fun x hx => wk _ (List.mem_of_mem_take (rank_mem hx).1)
    have hln : (rank 0 [] ((bs.map (fw L t)).take j)).length ≤ 12 := by rw [rank_len, List.length_take]; simp; omega
    have n2 := fun x6 => next [.v (.lst st ((bs.map (shW L t)).map wD)), .v (frD L), .v (frD t), .l (((rank 0 [] ((bs.map (fw L t)).take (j + 1))).map (·.1)).map wD), .v (wD (shW L t b)), .v (wD (fw L t b)), x6] ⟨_, _, _, rfl⟩
    rw [rs] at n2
    have wb := wk _ (List.mem_of_getElem? hbm)
    generalize rank 0 [] ((bs.map (fw L t)).take j) = xs at *
    simp [cE, vE, bE, rE, fE, mE, bin, nilA, consA, bT, andT, orT, notT, tupE, lstE, allV, allM, okB, intR, addR, asL, asT, asD, eqR, eqD_nn, eqD_bb, eqD_ii, eqD_ss, eqD_tt, eqD_ll, eqD_bi, eqD_ib, eqD_nt, eqD_tn, eqD_it, eqD_ti, eqD_ni, eqD_in, eqDs_nn, eqDs_cc, eqDs_nc, eqDs_cn, cmpD, cmpDs, depD, depDs, isNon, isNR, chainE, tvE, andV, orV, notV, ifE, slEV, ixR, callV, lenC, isiC, tyN, pick, retEV, callP, argD, argDs, seqS, bkS, ctS, exprS, retS, retNS, ifS, evSl, setS, SK.loop, gN, gNil, gCons, gT, asgS, parS, defF, defK, raiseS, absC, divmodC, mmC, stL, itL, itT, itR1, itR2, itE, shL, itZ, itV, forS, evD, methL, appL, clrL, popL, insL, trL, extL, setixS, argS, argSs, callI, callN, hereA, nextA, negE, itS, wipeR, compE, compD, yesT, seqD, listC, tupC, numd, zipd, nxS, frSl, retSl, retSls, retOk, retOks, tryAsS, tryOnlyS, lookB, kinE, xfE, lookF, frzE, isTR, isTB, allC, blsD, gU, raiseIS, at0, at1, at2, at3, lrE, sortC, intC, intsD, slE, intO, cutD, borS, borT, bkR, okRho, eqXR, slX, addT, repT, tryMixS, mixH, suK, suR, suL]
    refine ⟨b, L, t, rfl, ⟨(ok.win b mb).1, (ok.win b mb).2, (rw_.sz b mb).1, (rw_.sz b mb).2, rw_.sl, ht⟩, ?_⟩
    generalize fw L t b = c at *
    simp [cE, vE, bE, rE, fE, mE, bin, nilA, consA, bT, andT, orT, notT, tupE, lstE, allV, allM, okB, intR, addR, asL, asT, asD, eqR, eqD_nn, eqD_bb, eqD_ii, eqD_ss, eqD_tt, eqD_ll, eqD_bi, eqD_ib, eqD_nt, eqD_tn, eqD_it, eqD_ti, eqD_ni, eqD_in, eqDs_nn, eqDs_cc, eqDs_nc, eqDs_cn, cmpD, cmpDs, depD, depDs, isNon, isNR, chainE, tvE, andV, orV, notV, ifE, slEV, ixR, callV, lenC, isiC, tyN, pick, retEV, callP, argD, argDs, seqS, bkS, ctS, exprS, retS, retNS, ifS, evSl, setS, SK.loop, gN, gNil, gCons, gT, asgS, parS, defF, defK, raiseS, absC, divmodC, mmC, stL, itL, itT, itR1, itR2, itE, shL, itZ, itV, forS, evD, methL, appL, clrL, popL, insL, trL, extL, setixS, argS, argSs, callI, callN, hereA, nextA, negE, itS, wipeR, compE, compD, yesT, seqD, listC, tupC, numd, zipd, nxS, frSl, retSl, retSls, retOk, retOks, tryAsS, tryOnlyS, lookB, kinE, xfE, lookF, frzE, isTR, isTB, allC, blsD, gU, raiseIS, at0, at1, at2, at3, lrE, sortC, intC, intsD, slE, intO, cutD, borS, borT, bkR, okRho, eqXR, slX, addT, repT, tryMixS, mixH, suK, suR, suL]
    refine while_inv (n := xs.length) (fun m ρ => ∃ a, a + m = xs.length ∧ ρ = [.v (.lst st ((bs.map (shW L t)).map wD)), .v (frD L), .v (frD t), .l ((xs.map (·.1)).map wD), .v (wD (shW L t b)), .v (wD c), .v (.int (a : Nat))] ∧ ∀ x ∈ xs.take a, ltW x.1 c) ⟨0, by omega, by simp, by simp⟩ ?_
    rintro m ρ K' ⟨a, ham, rfl, hta⟩ next3
    have fin : (∀ x ∈ xs.drop a, ¬ ltW x.1 c) → K2 [.v (.lst st ((bs.map (shW L t)).map wD)), .v (frD L), .v (frD t), .l (((xs.map (·.1)).map wD).take a ++ [wD c] ++ ((xs.map (·.1)).map wD).drop a), .v (wD (shW L t b)), .v (wD c), .v (.int (a : Nat))] := fun hd => by
      have e := split_at (by omega) hta hd
      have := n2 (.v (.int (a : Nat)))
      unfold ins at this
      rw [e] at this
      simpa using this
    by_cases hlt : a < xs.length
    · have ex : xs[a]? = some xs[a] := List.getElem?_eq_getElem hlt
      have mx : xs[a] ∈ xs := List.getElem_mem hlt
      have ea : L2.atI ((xs.map (·.1)).map wD) ((a : Nat) : Int) = some (wD xs[a].1) := atI_nat (by rw [List.getElem?_map, List.getElem?_map, ex]; rfl)
      have hdr : xs.drop a = xs[a] :: xs.drop (a + 1) := List.drop_eq_getElem_cons hlt
      have etk : xs.take (a + 1) = xs.take a ++ [xs[a]] := by rw [List.take_add_one, ex]; rfl
      generalize xs[a] = x at *
      have lx : ((xs.map (·.1)).map wD).length = xs.length := by simp
      generalize (xs.map (·.1)).map wD = XD at *
      simp [cE, vE, bE, rE, fE, mE, bin, nilA, consA, bT, andT, orT, notT, tupE, lstE, allV, allM, okB, intR, addR, asL, asT, asD, eqR, eqD_nn, eqD_bb, eqD_ii, eqD_ss, eqD_tt, eqD_ll, eqD_bi, eqD_ib, eqD_nt, eqD_tn, eqD_it, eqD_ti, eqD_ni, eqD_in, eqDs_nn, eqDs_cc, eqDs_nc, eqDs_cn, cmpD, cmpDs, depD, depDs, isNon, isNR, chainE, tvE, andV, orV, notV, ifE, slEV, ixR, callV, lenC, isiC, tyN, pick, retEV, callP, argD, argDs, seqS, bkS, ctS, exprS, retS, retNS, ifS, evSl, setS, SK.loop, gN, gNil, gCons, gT, asgS, parS, defF, defK, raiseS, absC, divmodC, mmC, stL, itL, itT, itR1, itR2, itE, shL, itZ, itV, forS, evD, methL, appL, clrL, popL, insL, trL, extL, setixS, argS, argSs, callI, callN, hereA, nextA, negE, itS, wipeR, compE, compD, yesT, seqD, listC, tupC, numd, zipd, nxS, frSl, retSl, retSls, retOk, retOks, tryAsS, tryOnlyS, lookB, kinE, xfE, lookF, frzE, isTR, isTB, allC, blsD, gU, raiseIS, at0, at1, at2, at3, lrE, sortC, intC, intsD, slE, intO, cutD, borS, borT, bkR, okRho, eqXR, slX, addT, repT, tryMixS, mixH, suK, suR, suL, hlt, ea, lx]
      refine ⟨x.1, c, rfl, ⟨hxs x mx, wb⟩, ?_⟩
      by_cases hc : ltW x.1 c
      · simp [hc]
        exact next3 (m - 1) _ (by omega) ⟨a + 1, by omega, by simp, fun y hy => by
          rw [etk] at hy
          rcases List.mem_append.mp hy with hy | hy
          · exact hta y hy
          · rw [List.mem_singleton.mp hy]; exact hc⟩
      · have f := fin fun y hy => by
          rw [hdr] at hy
          have bx : ltW c x.1 := (ra x mx).resolve_left hc
          rcases List.mem_cons.mp hy with rfl | hy
          · exact hc
          · have hs2 : Srt (xs.drop a) := st0.sublist (List.drop_sublist _ _)
            rw [hdr] at hs2
            exact fun z => ltW_asym (ltW_trans bx ((List.pairwise_cons.mp hs2).1 y hy)) z
        simp [hc, sf__law_room_r1, cE, vE, bE, rE, fE, mE, bin, nilA, consA, bT, andT, orT, notT, tupE, lstE, allV, allM, okB, intR, addR, asL, asT, asD, eqR, eqD_nn, eqD_bb, eqD_ii, eqD_ss, eqD_tt, eqD_ll, eqD_bi, eqD_ib, eqD_nt, eqD_tn, eqD_it, eqD_ti, eqD_ni, eqD_in, eqDs_nn, eqDs_cc, eqDs_nc, eqDs_cn, cmpD, cmpDs, depD, depDs, isNon, isNR, chainE, tvE, andV, orV, notV, ifE, slEV, ixR, callV, lenC, isiC, tyN, pick, retEV, callP, argD, argDs, seqS, bkS, ctS, exprS, retS, retNS, ifS, evSl, setS, SK.loop, gN, gNil, gCons, gT, asgS, parS, defF, defK, raiseS, absC, divmodC, mmC, stL, itL, itT, itR1, itR2, itE, shL, itZ, itV, forS, evD, methL, appL, clrL, popL, insL, trL, extL, setixS, argS, argSs, callI, callN, hereA, nextA, negE, itS, wipeR, compE, compD, yesT, seqD, listC, tupC, numd, zipd, nxS, frSl, retSl, retSls, retOk, retOks, tryAsS, tryOnlyS, lookB, kinE, xfE, lookF, frzE, isTR, isTB, allC, blsD, gU, raiseIS, at0, at1, at2, at3, lrE, sortC, intC, intsD, slE, intO, cutD, borS, borT, bkR, okRho, eqXR, slX, addT, repT, tryMixS, mixH, suK, suR, suL, lx]
        simp at f
        exact ⟨⟨by omega, by omega⟩, f⟩
    · have f := fin (by
        have : xs.drop a = [] := List.drop_eq_nil_iff.mpr (by omega)
        rw [this]
        simp)
      have lx : ((xs.map (·.1)).map wD).length = xs.length := by simp
      generalize (xs.map (·.1)).map wD = XD at *
      simp [cE, vE, bE, rE, fE, mE, bin, nilA, consA, bT, andT, orT, notT, tupE, lstE, allV, allM, okB, intR, addR, asL, asT, asD, eqR, eqD_nn, eqD_bb, eqD_ii, eqD_ss, eqD_tt, eqD_ll, eqD_bi, eqD_ib, eqD_nt, eqD_tn, eqD_it, eqD_ti, eqD_ni, eqD_in, eqDs_nn, eqDs_cc, eqDs_nc, eqDs_cn, cmpD, cmpDs, depD, depDs, isNon, isNR, chainE, tvE, andV, orV, notV, ifE, slEV, ixR, callV, lenC, isiC, tyN, pick, retEV, callP, argD, argDs, seqS, bkS, ctS, exprS, retS, retNS, ifS, evSl, setS, SK.loop, gN, gNil, gCons, gT, asgS, parS, defF, defK, raiseS, absC, divmodC, mmC, stL, itL, itT, itR1, itR2, itE, shL, itZ, itV, forS, evD, methL, appL, clrL, popL, insL, trL, extL, setixS, argS, argSs, callI, callN, hereA, nextA, negE, itS, wipeR, compE, compD, yesT, seqD, listC, tupC, numd, zipd, nxS, frSl, retSl, retSls, retOk, retOks, tryAsS, tryOnlyS, lookB, kinE, xfE, lookF, frzE, isTR, isTB, allC, blsD, gU, raiseIS, at0, at1, at2, at3, lrE, sortC, intC, intsD, slE, intO, cutD, borS, borT, bkR, okRho, eqXR, slX, addT, repT, tryMixS, mixH, suK, suR, suL, hlt, sf__law_room_r1, lx]
      simp at f
      exact ⟨⟨by omega, by omega⟩, f⟩
  · rintro ρ ⟨x4, x5, x6, rfl⟩
    rw [List.length_map, show (bs.map (fw L t)).take bs.length = bs.map (fw L t) from List.take_of_length_le (by simp)]
    have e : ((rank 0 [] (bs.map (fw L t))).map (·.1)).map wD = (rmL L t bs).map wD := rfl
    rw [e]
    have rr := retOks_w (rmL L t bs)
    generalize (rmL L t bs).map wD = XD at *
    simp [sf__law_room_r2, cE, vE, bE, rE, fE, mE, bin, nilA, consA, bT, andT, orT, notT, tupE, lstE, allV, allM, okB, intR, addR, asL, asT, asD, eqR, eqD_nn, eqD_bb, eqD_ii, eqD_ss, eqD_tt, eqD_ll, eqD_bi, eqD_ib, eqD_nt, eqD_tn, eqD_it, eqD_ti, eqD_ni, eqD_in, eqDs_nn, eqDs_cc, eqDs_nc, eqDs_cn, cmpD, cmpDs, depD, depDs, isNon, isNR, chainE, tvE, andV, orV, notV, ifE, slEV, ixR, callV, lenC, isiC, tyN, pick, retEV, callP, argD, argDs, seqS, bkS, ctS, exprS, retS, retNS, ifS, evSl, setS, SK.loop, gN, gNil, gCons, gT, asgS, parS, defF, defK, raiseS, absC, divmodC, mmC, stL, itL, itT, itR1, itR2, itE, shL, itZ, itV, forS, evD, methL, appL, clrL, popL, insL, trL, extL, setixS, argS, argSs, callI, callN, hereA, nextA, negE, itS, wipeR, compE, compD, yesT, seqD, listC, tupC, numd, zipd, nxS, frSl, retSl, retSls, retOk, retOks, tryAsS, tryOnlyS, lookB, kinE, xfE, lookF, frzE, isTR, isTB, allC, blsD, gU, raiseIS, at0, at1, at2, at3, lrE, sortC, intC, intsD, slE, intO, cutD, borS, borT, bkR, okRho, eqXR, slX, addT, repT, tryMixS, mixH, suK, suR, suL]
    exact ⟨rr, h⟩
theorem to__law_within : ∀ ss K E, F__law_within ss K E → defF [true] 10 sf__law_within ss K E := fun ss K E h => by
  unfold F__law_within at h
  split at h
  · rename_i n
    simp [sf__law_within, cE, vE, bE, rE, fE, mE, bin, nilA, consA, bT, andT, orT, notT, tupE, lstE, allV, allM, okB, intR, addR, asL, asT, asD, eqR, eqD_nn, eqD_bb, eqD_ii, eqD_ss, eqD_tt, eqD_ll, eqD_bi, eqD_ib, eqD_nt, eqD_tn, eqD_it, eqD_ti, eqD_ni, eqD_in, eqDs_nn, eqDs_cc, eqDs_nc, eqDs_cn, cmpD, cmpDs, depD, depDs, isNon, isNR, chainE, tvE, andV, orV, notV, ifE, slEV, ixR, callV, lenC, isiC, tyN, pick, retEV, callP, argD, argDs, seqS, bkS, ctS, exprS, retS, retNS, ifS, evSl, setS, SK.loop, gN, gNil, gCons, gT, asgS, parS, defF, defK, raiseS, absC, divmodC, mmC, stL, itL, itT, itR1, itR2, itE, shL, itZ, itV, forS, evD, methL, appL, clrL, popL, insL, trL, extL, setixS, argS, argSs, callI, callN, hereA, nextA, negE, itS, wipeR, compE, compD, yesT, seqD, listC, tupC, numd, zipd, nxS, frSl, retSl, retSls, retOk, retOks, tryAsS, tryOnlyS, lookB, kinE, xfE, lookF, frzE, isTR, isTB, allC, blsD, gU, raiseIS, at0, at1, at2, at3, lrE, sortC, intC, intsD, slE, intO, cutD, borS, borT, bkR, okRho, eqXR, slX, addT, repT, tryMixS, mixH, suK, suR, suL, F__law_take, F__law_smallX, F__law_fit]
    have l8 : ∀ {m : Int} {n : Nat}, Si n m → n ≤ 8000 → Si 8000 m := fun h hn => h.mono hn
    refine ⟨l8 (Si.lit (n := 2)) (by decide), fun x n1 x0 x1 => ?_⟩
    obtain ⟨M, hM, M0, M1⟩ := pick2 (a := 3) (b := 1000) x0 x1 (by decide) (by decide)
    rw [hM]
    simp [cE, vE, bE, rE, fE, mE, bin, nilA, consA, bT, andT, orT, notT, tupE, lstE, allV, allM, okB, intR, addR, asL, asT, asD, eqR, eqD_nn, eqD_bb, eqD_ii, eqD_ss, eqD_tt, eqD_ll, eqD_bi, eqD_ib, eqD_nt, eqD_tn, eqD_it, eqD_ti, eqD_ni, eqD_in, eqDs_nn, eqDs_cc, eqDs_nc, eqDs_cn, cmpD, cmpDs, depD, depDs, isNon, isNR, chainE, tvE, andV, orV, notV, ifE, slEV, ixR, callV, lenC, isiC, tyN, pick, retEV, callP, argD, argDs, seqS, bkS, ctS, exprS, retS, retNS, ifS, evSl, setS, SK.loop, gN, gNil, gCons, gT, asgS, parS, defF, defK, raiseS, absC, divmodC, mmC, stL, itL, itT, itR1, itR2, itE, shL, itZ, itV, forS, evD, methL, appL, clrL, popL, insL, trL, extL, setixS, argS, argSs, callI, callN, hereA, nextA, negE, itS, wipeR, compE, compD, yesT, seqD, listC, tupC, numd, zipd, nxS, frSl, retSl, retSls, retOk, retOks, tryAsS, tryOnlyS, lookB, kinE, xfE, lookF, frzE, isTR, isTB, allC, blsD, gU, raiseIS, at0, at1, at2, at3, lrE, sortC, intC, intsD, slE, intO, cutD, borS, borT, bkR, okRho, eqXR, slX, addT, repT, tryMixS, mixH, suK, suR, suL, F__law_take, F__law_smallX, F__law_fit]
    refine ⟨⟨M0, by unfold Si; omega⟩, fun m m0 m1 => ⟨l8 (Si.lit (n := 2)) (by decide), fun y n2 y0 y1 => ?_⟩⟩
    obtain ⟨N, hN, N0, N1⟩ := pick3' (a := 3) (b := 6) (c := 12) y0 y1 (by decide) (by decide) (by decide)
    rw [hN]
    simp [cE, vE, bE, rE, fE, mE, bin, nilA, consA, bT, andT, orT, notT, tupE, lstE, allV, allM, okB, intR, addR, asL, asT, asD, eqR, eqD_nn, eqD_bb, eqD_ii, eqD_ss, eqD_tt, eqD_ll, eqD_bi, eqD_ib, eqD_nt, eqD_tn, eqD_it, eqD_ti, eqD_ni, eqD_in, eqDs_nn, eqDs_cc, eqDs_nc, eqDs_cn, cmpD, cmpDs, depD, depDs, isNon, isNR, chainE, tvE, andV, orV, notV, ifE, slEV, ixR, callV, lenC, isiC, tyN, pick, retEV, callP, argD, argDs, seqS, bkS, ctS, exprS, retS, retNS, ifS, evSl, setS, SK.loop, gN, gNil, gCons, gT, asgS, parS, defF, defK, raiseS, absC, divmodC, mmC, stL, itL, itT, itR1, itR2, itE, shL, itZ, itV, forS, evD, methL, appL, clrL, popL, insL, trL, extL, setixS, argS, argSs, callI, callN, hereA, nextA, negE, itS, wipeR, compE, compD, yesT, seqD, listC, tupC, numd, zipd, nxS, frSl, retSl, retSls, retOk, retOks, tryAsS, tryOnlyS, lookB, kinE, xfE, lookF, frzE, isTR, isTB, allC, blsD, gU, raiseIS, at0, at1, at2, at3, lrE, sortC, intC, intsD, slE, intO, cutD, borS, borT, bkR, okRho, eqXR, slX, addT, repT, tryMixS, mixH, suK, suR, suL, F__law_take, F__law_smallX, F__law_fit]
    refine ⟨⟨N0, by unfold Si; omega⟩, fun z z0 z1 => ⟨l8 (Si.lit (n := 2)) (by decide), fun e e0 e1 => ⟨l8 (Si.lit (n := 3)) (by decide), fun a a0 a1 => ⟨l8 (Si.lit (n := 2)) (by decide), fun c c0 c1 => ⟨⟨by omega, by unfold Si; omega⟩, fun u0 hu0 a0' e0' p0 p0' u1 n3 hu1 a1' e1' p1 p1' => ⟨by omega, ?_⟩⟩⟩⟩⟩⟩
    replace hu0 : SU u0 := ⟨hu0, a0', e0', p0, p0'⟩
    replace hu1 : SU u1 := ⟨hu1, a1', e1', p1, p1'⟩
    have sf := frac_sm (k := 4) (x := a) (y := c) (by unfold Si; omega) (by unfold Si; omega) c0
    have fp := frac_pos a0 c0
    generalize (1 + (a : Rat)) / (1 + (c : Rat)) = s0 at *
    have z12 : (1 + z).toNat ≤ 12 := by omega
    refine loop_inv (fun i ρ => ∃ n' q sp bs x8 x9, ρ = [.l [.int n'], .v (.int (1 + m)), .v (.int (1 + z)), .v (.bl (e == 2)), .v (frD sp), .v (.lst true [frD u0, frD u1]), .v (frD q), .l (bs.map wD), x8, x9] ∧ Sm 4 sp ∧ 0 < sp ∧ Sm (5 + 5 * i) q ∧ 0 < q ∧ bs.length = i ∧ (∀ b ∈ bs, Sm (5 + 5 * i) b.p ∧ SU b.u ∧ b.m = 1 + m ∧ 0 < b.p ∧ b.p + sp ≤ q) ∧ bs.Pairwise fun a b => a.p < b.p) ⟨_, s0, s0, [], _, _, rfl, sf, fp, sf.mono (by decide), fp, rfl, by simp, .nil⟩ ?_ ?_
    · rintro i d ρ K2 he ⟨n', q, sp, bs, x8, x9, rfl, ssp, psp, sq, pq, hl, hbs, hp⟩ next
      obtain ⟨hi, rfl⟩ := rngD_get he
      have q4 : Sm 4000 q := sq.mono (by omega)
      have fin : ∀ (n6 : Int) (u s' : Rat) (x9 : Sl), SU u → Sm 4 s' → 0 < s' → K2 [.l [.int n6], .v (.int (1 + m)), .v (.int (1 + z)), .v (.bl (e == 2)), .v (frD s'), .v (.lst true [frD u0, frD u1]), .v (frD (q + s')), .l (bs.map wD ++ [.tup [frD q, frD u, .int (1 + m)]]), .v (.int (i : Nat)), x9] := fun n6 u s' x9 hu hs hs0 => by
        refine next _ ⟨n6, _, s', bs ++ [⟨q, u, 1 + m⟩], .v (.int (i : Nat)), x9, by simp [wD], hs, hs0, (sq.add hs).mono (by omega), by grind, by simp [hl], fun b hb => ?_, ?_⟩
        · rcases List.mem_append.mp hb with hb | hb
          · obtain ⟨h1, h2, h3, h4, h5⟩ := hbs b hb
            exact ⟨h1.mono (by omega), h2, h3, h4, by grind⟩
          · rw [List.mem_singleton.mp hb]
            exact ⟨sq.mono (by omega), hu, rfl, pq, Rat.le_refl⟩
        · refine List.pairwise_append.mpr ⟨hp, List.pairwise_singleton _ _, fun a ha b hb => ?_⟩
          rw [List.mem_singleton.mp hb]
          have := (hbs a ha).2.2.2.2
          show a.p < q
          grind
      simp [cE, vE, bE, rE, fE, mE, bin, nilA, consA, bT, andT, orT, notT, tupE, lstE, allV, allM, okB, intR, addR, asL, asT, asD, eqR, eqD_nn, eqD_bb, eqD_ii, eqD_ss, eqD_tt, eqD_ll, eqD_bi, eqD_ib, eqD_nt, eqD_tn, eqD_it, eqD_ti, eqD_ni, eqD_in, eqDs_nn, eqDs_cc, eqDs_nc, eqDs_cn, cmpD, cmpDs, depD, depDs, isNon, isNR, chainE, tvE, andV, orV, notV, ifE, slEV, ixR, callV, lenC, isiC, tyN, pick, retEV, callP, argD, argDs, seqS, bkS, ctS, exprS, retS, retNS, ifS, evSl, setS, SK.loop, gN, gNil, gCons, gT, asgS, parS, defF, defK, raiseS, absC, divmodC, mmC, stL, itL, itT, itR1, itR2, itE, shL, itZ, itV, forS, evD, methL, appL, clrL, popL, insL, trL, extL, setixS, argS, argSs, callI, callN, hereA, nextA, negE, itS, wipeR, compE, compD, yesT, seqD, listC, tupC, numd, zipd, nxS, frSl, retSl, retSls, retOk, retOks, tryAsS, tryOnlyS, lookB, kinE, xfE, lookF, frzE, isTR, isTB, allC, blsD, gU, raiseIS, at0, at1, at2, at3, lrE, sortC, intC, intsD, slE, intO, cutD, borS, borT, bkR, okRho, eqXR, slX, addT, repT, tryMixS, mixH, suK, suR, suL, F__law_take]
      refine ⟨l8 (Si.lit (n := 2)) (by decide), fun w n4 w0 w1 => ?_⟩
      have hw : ∃ u, L2.atI [frD u0, frD u1] w = some (frD u) ∧ SU u := by
        have : w = 0 ∨ w = 1 := by omega
        rcases this with rfl | rfl
        · exact ⟨u0, at0, hu0⟩
        · exact ⟨u1, at1, hu1⟩
      obtain ⟨u, ew, hu⟩ := hw
      rw [ew]
      simp [cE, vE, bE, rE, fE, mE, bin, nilA, consA, bT, andT, orT, notT, tupE, lstE, allV, allM, okB, intR, addR, asL, asT, asD, eqR, eqD_nn, eqD_bb, eqD_ii, eqD_ss, eqD_tt, eqD_ll, eqD_bi, eqD_ib, eqD_nt, eqD_tn, eqD_it, eqD_ti, eqD_ni, eqD_in, eqDs_nn, eqDs_cc, eqDs_nc, eqDs_cn, cmpD, cmpDs, depD, depDs, isNon, isNR, chainE, tvE, andV, orV, notV, ifE, slEV, ixR, callV, lenC, isiC, tyN, pick, retEV, callP, argD, argDs, seqS, bkS, ctS, exprS, retS, retNS, ifS, evSl, setS, SK.loop, gN, gNil, gCons, gT, asgS, parS, defF, defK, raiseS, absC, divmodC, mmC, stL, itL, itT, itR1, itR2, itE, shL, itZ, itV, forS, evD, methL, appL, clrL, popL, insL, trL, extL, setixS, argS, argSs, callI, callN, hereA, nextA, negE, itS, wipeR, compE, compD, yesT, seqD, listC, tupC, numd, zipd, nxS, frSl, retSl, retSls, retOk, retOks, tryAsS, tryOnlyS, lookB, kinE, xfE, lookF, frzE, isTR, isTB, allC, blsD, gU, raiseIS, at0, at1, at2, at3, lrE, sortC, intC, intsD, slE, intO, cutD, borS, borT, bkR, okRho, eqXR, slX, addT, repT, tryMixS, mixH, suK, suR, suL, F__law_smallX, F__law_take, F__law_fit, F__law_plus, F_plus, F_two, Rat.den_nz, nd]
      split
      · exact ⟨by omega, ⟨q4.n, q4.d, (ssp.mono (m := 4000) (by decide)).n, (ssp.mono (m := 4000) (by decide)).d⟩, fin n4 u sp _ hu ssp psp⟩
      · refine fun v hv av ev pv pv' => ⟨l8 (Si.lit (n := 3)) (by decide), fun a a0 a1 => ⟨l8 (Si.lit (n := 2)) (by decide), fun c n5 c0 c1 => ⟨⟨by omega, by unfold Si; omega⟩, by omega, ?_⟩⟩⟩
        have sf := frac_sm (k := 4) (x := a) (y := c) (by unfold Si; omega) (by unfold Si; omega) c0
        have fp := frac_pos a0 c0
        have sf4 := sf.mono (m := 4000) (by decide)
        exact ⟨⟨q4.n, q4.d, sf4.n, sf4.d⟩, fin n5 v _ _ ⟨hv, av, ev, pv, pv'⟩ sf fp⟩
    · rintro ρ ⟨n', q, sp, bs, x8, x9, rfl, ssp, psp, sq, pq, hl, hbs, hp⟩
      rw [rngD_len] at hl hbs sq
      simp [sf__law_within_r1, cE, vE, bE, rE, fE, mE, bin, nilA, consA, bT, andT, orT, notT, tupE, lstE, allV, allM, okB, intR, addR, asL, asT, asD, eqR, eqD_nn, eqD_bb, eqD_ii, eqD_ss, eqD_tt, eqD_ll, eqD_bi, eqD_ib, eqD_nt, eqD_tn, eqD_it, eqD_ti, eqD_ni, eqD_in, eqDs_nn, eqDs_cc, eqDs_nc, eqDs_cn, cmpD, cmpDs, depD, depDs, isNon, isNR, chainE, tvE, andV, orV, notV, ifE, slEV, ixR, callV, lenC, isiC, tyN, pick, retEV, callP, argD, argDs, seqS, bkS, ctS, exprS, retS, retNS, ifS, evSl, setS, SK.loop, gN, gNil, gCons, gT, asgS, parS, defF, defK, raiseS, absC, divmodC, mmC, stL, itL, itT, itR1, itR2, itE, shL, itZ, itV, forS, evD, methL, appL, clrL, popL, insL, trL, extL, setixS, argS, argSs, callI, callN, hereA, nextA, negE, itS, wipeR, compE, compD, yesT, seqD, listC, tupC, numd, zipd, nxS, frSl, retSl, retSls, retOk, retOks, tryAsS, tryOnlyS, lookB, kinE, xfE, lookF, frzE, isTR, isTB, allC, blsD, gU, raiseIS, at0, at1, at2, at3, lrE, sortC, intC, intsD, slE, intO, cutD, borS, borT, bkR, okRho, eqXR, slX, addT, repT, tryMixS, mixH, suK, suR, suL, F__law_take, F__law_minus, F_minus, F__law_times, F_times, F_two, Rat.den_nz, nd]
      have q4 : Sm 4000 q := sq.mono (by omega)
      have s4 := ssp.mono (m := 4000) (by decide)
      have h12 : Sm 2 (1 / 2 : Rat) := (Sm.div (n := 2) (m := 2) (a := 1) (b := 2) (by unfold Si; decide) (by unfold Si; decide) (by decide)).mono (by decide)
      have sh := (ssp.mul h12)
      have s5 := sh.mono (m := 4000) (by decide)
      have mk : ∀ L : Rat, Sm 80 L → (∀ b ∈ bs, b.p < L) → RmOk bs L := fun L sL hL => ⟨by omega, by omega, fun b hb => ⟨(hbs b hb).1.mono (by omega), (hbs b hb).2.1.1.mono (by decide)⟩, ⟨1 + m, by omega, by omega, fun b hb => (hbs b hb).2.2.1⟩, hp, fun b hb => ⟨(hbs b hb).2.2.2.1, hL b hb⟩, sL⟩
      have sxs : ∀ b ∈ bs, Sx b := fun b hb => (hbs b hb).2.1.2
      have k1 : RmOk bs q := mk q (sq.mono (by omega)) fun b hb => by have := (hbs b hb).2.2.2.2; grind
      have k2 : RmOk bs (q - sp * (1 / 2)) := mk _ ((sq.sub sh).mono (by omega)) fun b hb => by have := (hbs b hb).2.2.2.2; grind
      split
      · refine ⟨l8 (Si.lit (n := 2)) (by decide), fun w n4 w0 w1 => ?_⟩
        split
        · exact ⟨⟨s4.n, s4.d, by unfold Si; decide, by unfold Si; decide⟩, ⟨q4.n, q4.d, s5.n, s5.d⟩, retOks_w _, h bs _ n4 k2 sxs⟩
        · exact ⟨retOks_w _, h bs _ n4 k1 sxs⟩
      · exact ⟨retOks_w _, h bs _ n' k1 sxs⟩
  · exact h.elim
theorem sh_z {L t : Rat} (L0 : 0 < L) (b : Bw) : (shW L t b).p + b.u * t = b.p + rst (b.u * t) (L + L) := by
  show b.p - (fl (b.u * t / (L + L)) : Rat) * (L + L) + b.u * t = _
  unfold rst
  grind
theorem to__law_folded : ∀ ss K E, F__law_folded ss K E → defF [false, false, false] 5 sf__law_folded ss K E := fun ss K E h => by
  obtain ⟨b, L, t, rfl, ⟨w1, w2, sp, su, sL, st⟩, h⟩ := h
  have L0 : 0 < L := by grind
  have T0 : 0 < L + L := by grind
  have tn : ¬ L + L = 0 := by grind
  have sT := sL.add sL
  have sut := su.mul st
  have sk := fl_si (sut.quo sT tn)
  have sq : Sm 1300 (shW L t b).p := (sp.sub ((Sm.int sk).mul sT)).mono (by decide)
  have sq4 := sq.mono (m := 4000) (by decide)
  have s2 := sL.mono (m := 4000) (by decide)
  have s3 := sT.mono (m := 4000) (by decide)
  have s5 := su.mono (m := 4000) (by decide)
  have s6 := sut.mono (m := 4000) (by decide)
  have s7 := st.mono (m := 4000) (by decide)
  obtain ⟨r0, r1⟩ := rst_b (x := b.u * t) T0
  have sz : Sm 2000 (b.p + rst (b.u * t) (L + L)) := (sp.add (rst_sm sut sT T0)).mono (by decide)
  have ez := sh_z (t := t) L0 b
  have eu : (shW L t b).u = b.u := rfl
  have em : (shW L t b).m = b.m := rfl
  have hc := fold_cases L0 (mvW t b)
  have hx : rst (mvW t b).p (L + L) = rst (b.p + rst (b.u * t) (L + L)) (L + L) := by
    have := rst_rst (x := b.u * t) (z := b.p) T0
    rw [show b.p + rst (b.u * t) (L + L) = rst (b.u * t) (L + L) + b.p by grind, this]
    congr 1
    show b.p + b.u * t = _
    grind
  rw [hx] at hc
  have hm := fold_m L (mvW t b)
  have hw : wD (fw L t b) = .tup [frD (fw L t b).p, frD (fw L t b).u, .int b.m] := by rw [← (show (fw L t b).m = b.m from hm)]; rfl
  rw [hw] at h
  have hu : (mvW t b).u = b.u := rfl
  rw [hu] at hc
  have z0 : 0 < b.p + rst (b.u * t) (L + L) := by grind
  have z3 : b.p + rst (b.u * t) (L + L) < L + (L + L) := by grind
  generalize b.p + rst (b.u * t) (L + L) = z at *
  have e01 : (0 : Rat) / 1 = 0 := by grind
  have z1 : Si 4000 (1 : Int) := by unfold Si; decide
  have z0' : Si 4000 (0 : Int) := by unfold Si; decide
  simp [sf__law_folded, cE, vE, bE, rE, fE, mE, bin, nilA, consA, bT, andT, orT, notT, tupE, lstE, allV, allM, okB, intR, addR, asL, asT, asD, eqR, eqD_nn, eqD_bb, eqD_ii, eqD_ss, eqD_tt, eqD_ll, eqD_bi, eqD_ib, eqD_nt, eqD_tn, eqD_it, eqD_ti, eqD_ni, eqD_in, eqDs_nn, eqDs_cc, eqDs_nc, eqDs_cn, cmpD, cmpDs, depD, depDs, isNon, isNR, chainE, tvE, andV, orV, notV, ifE, slEV, ixR, callV, lenC, isiC, tyN, pick, retEV, callP, argD, argDs, seqS, bkS, ctS, exprS, retS, retNS, ifS, evSl, setS, SK.loop, gN, gNil, gCons, gT, asgS, parS, defF, defK, raiseS, absC, divmodC, mmC, stL, itL, itT, itR1, itR2, itE, shL, itZ, itV, forS, evD, methL, appL, clrL, popL, insL, trL, extL, setixS, argS, argSs, callI, callN, hereA, nextA, negE, itS, wipeR, compE, compD, yesT, seqD, listC, tupC, numd, zipd, nxS, frSl, retSl, retSls, retOk, retOks, tryAsS, tryOnlyS, lookB, kinE, xfE, lookF, frzE, isTR, isTB, allC, blsD, gU, raiseIS, at0, at1, at2, at3, lrE, sortC, intC, intsD, slE, intO, cutD, borS, borT, bkR, okRho, eqXR, slX, addT, repT, tryMixS, mixH, suK, suR, suL, wD, F__law_plus, F__law_times, F_plus, F_times, F_two, Rat.den_nz, nd, eu, em, ez]
  refine ⟨by (repeat' with_reducible apply And.intro) <;> try first | assumption | exact Sm.n (by assumption) | exact Sm.d (by assumption) | exact Si.mono (by assumption) (by decide) | exact dpos _ | exact Rat.nz _ | exact Rat.den_nz _, by (repeat' with_reducible apply And.intro) <;> try first | assumption | exact Sm.n (by assumption) | exact Sm.d (by assumption) | exact Si.mono (by assumption) (by decide) | exact dpos _ | exact Rat.nz _ | exact Rat.den_nz _, ?_⟩
  have fin : ∀ (y u : Rat), (y = 0 → (fw L t b).p = 0 ∧ (fw L t b).u = gr u) → (y = L → (fw L t b).p = L ∧ (fw L t b).u = -gr u) → (y ≠ 0 → y ≠ L → (fw L t b).p = y ∧ (fw L t b).u = u) → sf__law_folded_r1 [.v (.tup [frD (shW L t b).p, frD b.u, .int b.m]), .v (frD L), .v (frD t), .v (frD y), .v (frD u)] (defK [false, false, false] K E) := fun y u e1 e2 e3 => by
    simp [sf__law_folded_r1, cE, vE, bE, rE, fE, mE, bin, nilA, consA, bT, andT, orT, notT, tupE, lstE, allV, allM, okB, intR, addR, asL, asT, asD, eqR, eqD_nn, eqD_bb, eqD_ii, eqD_ss, eqD_tt, eqD_ll, eqD_bi, eqD_ib, eqD_nt, eqD_tn, eqD_it, eqD_ti, eqD_ni, eqD_in, eqDs_nn, eqDs_cc, eqDs_nc, eqDs_cn, cmpD, cmpDs, depD, depDs, isNon, isNR, chainE, tvE, andV, orV, notV, ifE, slEV, ixR, callV, lenC, isiC, tyN, pick, retEV, callP, argD, argDs, seqS, bkS, ctS, exprS, retS, retNS, ifS, evSl, setS, SK.loop, gN, gNil, gCons, gT, asgS, parS, defF, defK, raiseS, absC, divmodC, mmC, stL, itL, itT, itR1, itR2, itE, shL, itZ, itV, forS, evD, methL, appL, clrL, popL, insL, trL, extL, setixS, argS, argSs, callI, callN, hereA, nextA, negE, itS, wipeR, compE, compD, yesT, seqD, listC, tupC, numd, zipd, nxS, frSl, retSl, retSls, retOk, retOks, tryAsS, tryOnlyS, lookB, kinE, xfE, lookF, frzE, isTR, isTB, allC, blsD, gU, raiseIS, at0, at1, at2, at3, lrE, sortC, intC, intsD, slE, intO, cutD, borS, borT, bkR, okRho, eqXR, slX, addT, repT, tryMixS, mixH, suK, suR, suL, rat_eq]
    by_cases c1 : y = 0
    · obtain ⟨q1, q2⟩ := e1 c1
      subst c1
      have dd : (((0 : Rat).den : Nat) : Int) = 1 := rfl
      have nL : ¬ (0 : Rat) = L := by grind
      rw [if_pos ⟨rfl, dd⟩, if_neg nL, abs_fr]
      rw [q1, q2] at h
      exact h
    · rw [if_neg fun z => c1 z.1]
      by_cases c2 : y = L
      · obtain ⟨q1, q2⟩ := e2 c2
        rw [if_pos c2, nab_fr]
        rw [q1, q2] at h
        rw [c2]
        exact h
      · obtain ⟨q1, q2⟩ := e3 c1 c2
        rw [if_neg c2]
        rw [q1, q2] at h
        exact h
  have sz4 := sz.mono (m := 4000) (by decide)
  have sy1 : Sm 3000 (L + L - z) := (sT.sub sz).mono (by decide)
  have sy4 := sy1.mono (m := 4000) (by decide)
  have grn : gr (-b.u) = gr b.u := by unfold gr; split <;> split <;> grind
  refine while_inv (n := 2) (fun m ρ => (m = 2 ∧ ρ = [.v (.tup [frD (shW L t b).p, frD b.u, .int b.m]), .v (frD L), .v (frD t), .v (frD z), .v (frD b.u)]) ∨ (m = 1 ∧ L < z ∧ ρ = [.v (.tup [frD (shW L t b).p, frD b.u, .int b.m]), .v (frD L), .v (frD t), .v (frD (L + L - z)), .v (frD (-b.u))]) ∨ (m = 0 ∧ L + L < z ∧ ρ = [.v (.tup [frD (shW L t b).p, frD b.u, .int b.m]), .v (frD L), .v (frD t), .v (frD (z - (L + L))), .v (frD b.u)])) (.inl ⟨rfl, rfl⟩) ?_
  rintro m ρ K' hI next3
  rcases hI with ⟨rfl, rfl⟩ | ⟨rfl, c, rfl⟩ | ⟨rfl, c, rfl⟩
  · have n0 : ¬ z < 0 := by grind
    simp [cE, vE, bE, rE, fE, mE, bin, nilA, consA, bT, andT, orT, notT, tupE, lstE, allV, allM, okB, intR, addR, asL, asT, asD, eqR, eqD_nn, eqD_bb, eqD_ii, eqD_ss, eqD_tt, eqD_ll, eqD_bi, eqD_ib, eqD_nt, eqD_tn, eqD_it, eqD_ti, eqD_ni, eqD_in, eqDs_nn, eqDs_cc, eqDs_nc, eqDs_cn, cmpD, cmpDs, depD, depDs, isNon, isNR, chainE, tvE, andV, orV, notV, ifE, slEV, ixR, callV, lenC, isiC, tyN, pick, retEV, callP, argD, argDs, seqS, bkS, ctS, exprS, retS, retNS, ifS, evSl, setS, SK.loop, gN, gNil, gCons, gT, asgS, parS, defF, defK, raiseS, absC, divmodC, mmC, stL, itL, itT, itR1, itR2, itE, shL, itZ, itV, forS, evD, methL, appL, clrL, popL, insL, trL, extL, setixS, argS, argSs, callI, callN, hereA, nextA, negE, itS, wipeR, compE, compD, yesT, seqD, listC, tupC, numd, zipd, nxS, frSl, retSl, retSls, retOk, retOks, tryAsS, tryOnlyS, lookB, kinE, xfE, lookF, frzE, isTR, isTB, allC, blsD, gU, raiseIS, at0, at1, at2, at3, lrE, sortC, intC, intsD, slE, intO, cutD, borS, borT, bkR, okRho, eqXR, slX, addT, repT, tryMixS, mixH, suK, suR, suL, F__law_less, F_under, Rat.den_nz, nd, e01]
    refine ⟨⟨dpos _, by (repeat' with_reducible apply And.intro) <;> try first | assumption | exact Sm.n (by assumption) | exact Sm.d (by assumption) | exact Si.mono (by assumption) (by decide) | exact dpos _ | exact Rat.nz _ | exact Rat.den_nz _⟩, ?_⟩
    rw [if_neg n0]
    refine ⟨⟨dpos _, dpos _, by (repeat' with_reducible apply And.intro) <;> try first | assumption | exact Sm.n (by assumption) | exact Sm.d (by assumption) | exact Si.mono (by assumption) (by decide) | exact dpos _ | exact Rat.nz _ | exact Rat.den_nz _⟩, ?_⟩
    by_cases c : L < z
    · rw [if_pos c]
      simp [n0]
      refine ⟨⟨dpos _, by (repeat' with_reducible apply And.intro) <;> try first | assumption | exact Sm.n (by assumption) | exact Sm.d (by assumption) | exact Si.mono (by assumption) (by decide) | exact dpos _ | exact Rat.nz _ | exact Rat.den_nz _⟩, ?_⟩
      simp [F__law_minus, F_minus, F_two, Rat.den_nz, nd]
      refine ⟨by (repeat' with_reducible apply And.intro) <;> try first | assumption | exact Sm.n (by assumption) | exact Sm.d (by assumption) | exact Si.mono (by assumption) (by decide) | exact dpos _ | exact Rat.nz _ | exact Rat.den_nz _, by (repeat' with_reducible apply And.intro) <;> try first | assumption | exact Sm.n (by assumption) | exact Sm.d (by assumption) | exact Si.mono (by assumption) (by decide) | exact dpos _ | exact Rat.nz _ | exact Rat.den_nz _, ?_⟩
      rw [neg_fr]
      exact next3 1 _ (by omega) (.inr (.inl ⟨rfl, c, rfl⟩))
    · rw [if_neg c]
      have ex : rst z (L + L) = z := rst_id T0 (by grind) (by grind)
      rw [ex] at hc
      refine fin z b.u (fun w => by grind) (fun w => ?_) (fun w1 w2 => ?_)
      · rcases hc.2.2 with ⟨q1, q2, q3, q4⟩ | ⟨q1, q2, q3⟩ | ⟨q1, q2, q3⟩ | ⟨q1, q2, q3⟩
        · grind
        · grind
        · exact ⟨q1, q3⟩
        · grind
      · rcases hc.2.2 with ⟨q1, q2, q3, q4⟩ | ⟨q1, q2, q3⟩ | ⟨q1, q2, q3⟩ | ⟨q1, q2, q3⟩
        · exact ⟨q1, q2⟩
        · exact absurd q2 w1
        · exact absurd q2 w2
        · exact absurd q3 c
  · have n1 : ¬ L < L + L - z := by grind
    simp [cE, vE, bE, rE, fE, mE, bin, nilA, consA, bT, andT, orT, notT, tupE, lstE, allV, allM, okB, intR, addR, asL, asT, asD, eqR, eqD_nn, eqD_bb, eqD_ii, eqD_ss, eqD_tt, eqD_ll, eqD_bi, eqD_ib, eqD_nt, eqD_tn, eqD_it, eqD_ti, eqD_ni, eqD_in, eqDs_nn, eqDs_cc, eqDs_nc, eqDs_cn, cmpD, cmpDs, depD, depDs, isNon, isNR, chainE, tvE, andV, orV, notV, ifE, slEV, ixR, callV, lenC, isiC, tyN, pick, retEV, callP, argD, argDs, seqS, bkS, ctS, exprS, retS, retNS, ifS, evSl, setS, SK.loop, gN, gNil, gCons, gT, asgS, parS, defF, defK, raiseS, absC, divmodC, mmC, stL, itL, itT, itR1, itR2, itE, shL, itZ, itV, forS, evD, methL, appL, clrL, popL, insL, trL, extL, setixS, argS, argSs, callI, callN, hereA, nextA, negE, itS, wipeR, compE, compD, yesT, seqD, listC, tupC, numd, zipd, nxS, frSl, retSl, retSls, retOk, retOks, tryAsS, tryOnlyS, lookB, kinE, xfE, lookF, frzE, isTR, isTB, allC, blsD, gU, raiseIS, at0, at1, at2, at3, lrE, sortC, intC, intsD, slE, intO, cutD, borS, borT, bkR, okRho, eqXR, slX, addT, repT, tryMixS, mixH, suK, suR, suL, F__law_less, F_under, Rat.den_nz, nd, e01]
    refine ⟨⟨dpos _, by (repeat' with_reducible apply And.intro) <;> try first | assumption | exact Sm.n (by assumption) | exact Sm.d (by assumption) | exact Si.mono (by assumption) (by decide) | exact dpos _ | exact Rat.nz _ | exact Rat.den_nz _⟩, ?_⟩
    by_cases n0 : L + L - z < 0
    · rw [if_pos n0]
      simp [n0]
      refine ⟨⟨dpos _, by (repeat' with_reducible apply And.intro) <;> try first | assumption | exact Sm.n (by assumption) | exact Sm.d (by assumption) | exact Si.mono (by assumption) (by decide) | exact dpos _ | exact Rat.nz _ | exact Rat.den_nz _⟩, ?_⟩
      rw [neg_fr, show -(L + L - z) = z - (L + L) by grind]
      exact next3 0 _ (by omega) (.inr (.inr ⟨rfl, by grind, rfl⟩))
    · rw [if_neg n0]
      refine ⟨⟨dpos _, dpos _, by (repeat' with_reducible apply And.intro) <;> try first | assumption | exact Sm.n (by assumption) | exact Sm.d (by assumption) | exact Si.mono (by assumption) (by decide) | exact dpos _ | exact Rat.nz _ | exact Rat.den_nz _⟩, ?_⟩
      rw [if_neg n1]
      by_cases ce : z = L + L
      · have ex : rst z (L + L) = 0 := rst_eq (m := 1) T0 (by grind) T0 (by rw [ce]; show L + L = 0 + ((1 : Int) : Rat) * (L + L); have : ((1 : Int) : Rat) = 1 := rfl; grind)
        rw [ex] at hc
        refine fin (L + L - z) (-b.u) (fun w => ?_) (fun w => by grind) (fun w1 w2 => by grind)
        rcases hc.2.2 with ⟨q1, q2, q3, q4⟩ | ⟨q1, q2, q3⟩ | ⟨q1, q2, q3⟩ | ⟨q1, q2, q3⟩
        · grind
        · exact ⟨q1, by rw [grn]; exact q3⟩
        · grind
        · grind
      · have ex : rst z (L + L) = z := rst_id T0 (by grind) (by grind)
        rw [ex] at hc
        refine fin (L + L - z) (-b.u) (fun w => by grind) (fun w => by grind) (fun w1 w2 => ?_)
        rcases hc.2.2 with ⟨q1, q2, q3, q4⟩ | ⟨q1, q2, q3⟩ | ⟨q1, q2, q3⟩ | ⟨q1, q2, q3⟩
        · grind
        · grind
        · grind
        · exact ⟨q1, q2⟩
  · have n0 : ¬ z - (L + L) < 0 := by grind
    have n1 : ¬ L < z - (L + L) := by grind
    have sy5 : Sm 4000 (z - (L + L)) := (sz.sub sT).mono (by decide)
    simp [cE, vE, bE, rE, fE, mE, bin, nilA, consA, bT, andT, orT, notT, tupE, lstE, allV, allM, okB, intR, addR, asL, asT, asD, eqR, eqD_nn, eqD_bb, eqD_ii, eqD_ss, eqD_tt, eqD_ll, eqD_bi, eqD_ib, eqD_nt, eqD_tn, eqD_it, eqD_ti, eqD_ni, eqD_in, eqDs_nn, eqDs_cc, eqDs_nc, eqDs_cn, cmpD, cmpDs, depD, depDs, isNon, isNR, chainE, tvE, andV, orV, notV, ifE, slEV, ixR, callV, lenC, isiC, tyN, pick, retEV, callP, argD, argDs, seqS, bkS, ctS, exprS, retS, retNS, ifS, evSl, setS, SK.loop, gN, gNil, gCons, gT, asgS, parS, defF, defK, raiseS, absC, divmodC, mmC, stL, itL, itT, itR1, itR2, itE, shL, itZ, itV, forS, evD, methL, appL, clrL, popL, insL, trL, extL, setixS, argS, argSs, callI, callN, hereA, nextA, negE, itS, wipeR, compE, compD, yesT, seqD, listC, tupC, numd, zipd, nxS, frSl, retSl, retSls, retOk, retOks, tryAsS, tryOnlyS, lookB, kinE, xfE, lookF, frzE, isTR, isTB, allC, blsD, gU, raiseIS, at0, at1, at2, at3, lrE, sortC, intC, intsD, slE, intO, cutD, borS, borT, bkR, okRho, eqXR, slX, addT, repT, tryMixS, mixH, suK, suR, suL, F__law_less, F_under, Rat.den_nz, nd, e01]
    refine ⟨⟨dpos _, by (repeat' with_reducible apply And.intro) <;> try first | assumption | exact Sm.n (by assumption) | exact Sm.d (by assumption) | exact Si.mono (by assumption) (by decide) | exact dpos _ | exact Rat.nz _ | exact Rat.den_nz _⟩, ?_⟩
    rw [if_neg n0]
    refine ⟨⟨dpos _, dpos _, by (repeat' with_reducible apply And.intro) <;> try first | assumption | exact Sm.n (by assumption) | exact Sm.d (by assumption) | exact Si.mono (by assumption) (by decide) | exact dpos _ | exact Rat.nz _ | exact Rat.den_nz _⟩, ?_⟩
    rw [if_neg n1]
    have ex : rst z (L + L) = z - (L + L) := rst_eq (m := 1) T0 (by grind) (by grind) (by have : ((1 : Int) : Rat) = 1 := rfl; grind)
    rw [ex] at hc
    refine fin (z - (L + L)) b.u (fun w => by grind) (fun w => by grind) (fun w1 w2 => ?_)
    rcases hc.2.2 with ⟨q1, q2, q3, q4⟩ | ⟨q1, q2, q3⟩ | ⟨q1, q2, q3⟩ | ⟨q1, q2, q3⟩
    · exact ⟨q1, q2⟩
    · grind
    · grind
    · grind
theorem to__law_part : ∀ ss K E, F__law_part ss K E → defF [false, false] 2 sf__law_part ss K E := fun ss K E h => by
  obtain ⟨a, b, rfl, ⟨a0, b0⟩, h⟩ := h
  refine ⟨rfl, ?_⟩
  unfold sf__law_part seqS
  refine gcd_while (i := 0) (j := 1) (by decide) _ a b _ rfl rfl a0 b0 ?_
  simp [cE, vE, bE, rE, fE, mE, bin, nilA, consA, bT, andT, orT, notT, tupE, lstE, allV, allM, okB, intR, addR, asL, asT, asD, eqR, eqD_nn, eqD_bb, eqD_ii, eqD_ss, eqD_tt, eqD_ll, eqD_bi, eqD_ib, eqD_nt, eqD_tn, eqD_it, eqD_ti, eqD_ni, eqD_in, eqDs_nn, eqDs_cc, eqDs_nc, eqDs_cn, cmpD, cmpDs, depD, depDs, isNon, isNR, chainE, tvE, andV, orV, notV, ifE, slEV, ixR, callV, lenC, isiC, tyN, pick, retEV, callP, argD, argDs, seqS, bkS, ctS, exprS, retS, retNS, ifS, evSl, setS, SK.loop, gN, gNil, gCons, gT, asgS, parS, defF, defK, raiseS, absC, divmodC, mmC, stL, itL, itT, itR1, itR2, itE, shL, itZ, itV, forS, evD, methL, appL, clrL, popL, insL, trL, extL, setixS, argS, argSs, callI, callN, hereA, nextA, negE, itS, wipeR, compE, compD, yesT, seqD, listC, tupC, numd, zipd, nxS, frSl, retSl, retSls, retOk, retOks, tryAsS, tryOnlyS, lookB, kinE, xfE, lookF, frzE, isTR, isTB, allC, blsD, gU, raiseIS, at0, at1, at2, at3, lrE, sortC, intC, intsD, slE, intO, cutD, borS, borT, bkR, okRho, eqXR, slX, addT, repT, tryMixS, mixH, suK, suR, suL]
  exact h
theorem to__law_common : ∀ ss K E, F__law_common ss K E → defF [false, false] 3 sf__law_common ss K E := fun ss K E h => by
  obtain ⟨a, b, rfl, ⟨a0, b0, sa, sb⟩, h⟩ := h
  obtain ⟨p1, p2, p3, p4⟩ := lc_pos a0 b0
  have h1 : 0 < a.num := num_posR a0
  have h2 : 0 < b.num := num_posR b0
  have g0 := gcd_pos (a := a.num) (b := b.num) (by omega)
  have da := den_pos a
  have db := den_pos b
  simp [sf__law_common, cE, vE, bE, rE, fE, mE, bin, nilA, consA, bT, andT, orT, notT, tupE, lstE, allV, allM, okB, intR, addR, asL, asT, asD, eqR, eqD_nn, eqD_bb, eqD_ii, eqD_ss, eqD_tt, eqD_ll, eqD_bi, eqD_ib, eqD_nt, eqD_tn, eqD_it, eqD_ti, eqD_ni, eqD_in, eqDs_nn, eqDs_cc, eqDs_nc, eqDs_cn, cmpD, cmpDs, depD, depDs, isNon, isNR, chainE, tvE, andV, orV, notV, ifE, slEV, ixR, callV, lenC, isiC, tyN, pick, retEV, callP, argD, argDs, seqS, bkS, ctS, exprS, retS, retNS, ifS, evSl, setS, SK.loop, gN, gNil, gCons, gT, asgS, parS, defF, defK, raiseS, absC, divmodC, mmC, stL, itL, itT, itR1, itR2, itE, shL, itZ, itV, forS, evD, methL, appL, clrL, popL, insL, trL, extL, setixS, argS, argSs, callI, callN, hereA, nextA, negE, itS, wipeR, compE, compD, yesT, seqD, listC, tupC, numd, zipd, nxS, frSl, retSl, retSls, retOk, retOks, tryAsS, tryOnlyS, lookB, kinE, xfE, lookF, frzE, isTR, isTB, allC, blsD, gU, raiseIS, at0, at1, at2, at3, lrE, sortC, intC, intsD, slE, intO, cutD, borS, borT, bkR, okRho, eqXR, slX, addT, repT, tryMixS, mixH, suK, suR, suL]
  refine ⟨MulOk.of sa.1 sb.1 (by decide), a.num, b.num, rfl, ⟨by omega, by omega⟩, ?_⟩
  have fe : (a.num * b.num).fdiv (Int.gcd a.num b.num : Int) = lcI a b := Int.fdiv_eq_ediv_of_nonneg _ (by omega)
  simp [cE, vE, bE, rE, fE, mE, bin, nilA, consA, bT, andT, orT, notT, tupE, lstE, allV, allM, okB, intR, addR, asL, asT, asD, eqR, eqD_nn, eqD_bb, eqD_ii, eqD_ss, eqD_tt, eqD_ll, eqD_bi, eqD_ib, eqD_nt, eqD_tn, eqD_it, eqD_ti, eqD_ni, eqD_in, eqDs_nn, eqDs_cc, eqDs_nc, eqDs_cn, cmpD, cmpDs, depD, depDs, isNon, isNR, chainE, tvE, andV, orV, notV, ifE, slEV, ixR, callV, lenC, isiC, tyN, pick, retEV, callP, argD, argDs, seqS, bkS, ctS, exprS, retS, retNS, ifS, evSl, setS, SK.loop, gN, gNil, gCons, gT, asgS, parS, defF, defK, raiseS, absC, divmodC, mmC, stL, itL, itT, itR1, itR2, itE, shL, itZ, itV, forS, evD, methL, appL, clrL, popL, insL, trL, extL, setixS, argS, argSs, callI, callN, hereA, nextA, negE, itS, wipeR, compE, compD, yesT, seqD, listC, tupC, numd, zipd, nxS, frSl, retSl, retSls, retOk, retOks, tryAsS, tryOnlyS, lookB, kinE, xfE, lookF, frzE, isTR, isTB, allC, blsD, gU, raiseIS, at0, at1, at2, at3, lrE, sortC, intC, intsD, slE, intO, cutD, borS, borT, bkR, okRho, eqXR, slX, addT, repT, tryMixS, mixH, suK, suR, suL]
  refine ⟨divOk_of ((gcd_si (a := a.num) sb.1 (by omega)).mono (m := 4000) (by decide)) (by decide) (by omega), (a.den : Nat), (b.den : Nat), rfl, ⟨by omega, by omega⟩, ?_⟩
  rw [fe]
  simp [cE, vE, bE, rE, fE, mE, bin, nilA, consA, bT, andT, orT, notT, tupE, lstE, allV, allM, okB, intR, addR, asL, asT, asD, eqR, eqD_nn, eqD_bb, eqD_ii, eqD_ss, eqD_tt, eqD_ll, eqD_bi, eqD_ib, eqD_nt, eqD_tn, eqD_it, eqD_ti, eqD_ni, eqD_in, eqDs_nn, eqDs_cc, eqDs_nc, eqDs_cn, cmpD, cmpDs, depD, depDs, isNon, isNR, chainE, tvE, andV, orV, notV, ifE, slEV, ixR, callV, lenC, isiC, tyN, pick, retEV, callP, argD, argDs, seqS, bkS, ctS, exprS, retS, retNS, ifS, evSl, setS, SK.loop, gN, gNil, gCons, gT, asgS, parS, defF, defK, raiseS, absC, divmodC, mmC, stL, itL, itT, itR1, itR2, itE, shL, itZ, itV, forS, evD, methL, appL, clrL, popL, insL, trL, extL, setixS, argS, argSs, callI, callN, hereA, nextA, negE, itS, wipeR, compE, compD, yesT, seqD, listC, tupC, numd, zipd, nxS, frSl, retSl, retSls, retOk, retOks, tryAsS, tryOnlyS, lookB, kinE, xfE, lookF, frzE, isTR, isTB, allC, blsD, gU, raiseIS, at0, at1, at2, at3, lrE, sortC, intC, intsD, slE, intO, cutD, borS, borT, bkR, okRho, eqXR, slX, addT, repT, tryMixS, mixH, suK, suR, suL, F__law_fit]
  refine ⟨⟨fun _ => b.den_nz, ?_⟩, h⟩
  have : Si 400 (Int.gcd (a.den : Int) (b.den : Int) : Int) := sb.2.of_le (by omega)
  exact this.mono (by decide)
theorem eqDs_w : ∀ xs ys : List Bw, eqDs (xs.map wD) (ys.map wD) = true ↔ xs = ys
  | [], [] => by simp [eqDs]
  | [], y :: ys => by simp [eqDs]
  | x :: xs, [] => by simp [eqDs]
  | x :: xs, y :: ys => by
    have h := eqDs_w xs ys
    have e : eqD (wD x) (wD y) = true ↔ x = y := by
      obtain ⟨p, u, m⟩ := x
      obtain ⟨p', u', m'⟩ := y
      simp [wD, frD, eqD, eqDs]
      constructor
      · rintro ⟨⟨h1, h2⟩, ⟨h3, h4⟩, h5⟩
        exact ⟨rat_eq.mp ⟨h1, by exact_mod_cast h2⟩, rat_eq.mp ⟨h3, by exact_mod_cast h4⟩, h5⟩
      · rintro ⟨rfl, rfl, rfl⟩
        simp
    simp only [List.map_cons, eqDs, Bool.and_eq_true, h, e, List.cons.injEq]
theorem cmp_ws : ∀ xs : List Bw, cmpDs (xs.map wD) = true ∧ depDs (xs.map wD) ≤ 4
  | [] => by simp [cmpDs, depDs]
  | x :: xs => by
    obtain ⟨h1, h2⟩ := cmp_ws xs
    simp only [List.map_cons, cmpDs, depDs, h1, Bool.and_true]
    exact ⟨rfl, by simp [wD, frD, depD, depDs]; omega⟩
theorem to__law_is_round : ∀ ss K E, F__law_is_round ss K E → defF [false, false, false] 8 sf__law_is_round ss K E := fun ss K E h => by
  obtain ⟨st, bs, L, t, rfl, ⟨ok, stt⟩, h⟩ := h
  have L0 := ok.l0
  have hl := ok.le
  have T0 : 0 < L + L := by grind
  have tn : ¬ L + L = 0 := by grind
  have nn : ¬ (L + L).num = 0 := fun z => tn (Rat.num_eq_zero.mp z)
  have sL := ok.sl
  have sT := sL.add sL
  simp [sf__law_is_round, cE, vE, bE, rE, fE, mE, bin, nilA, consA, bT, andT, orT, notT, tupE, lstE, allV, allM, okB, intR, addR, asL, asT, asD, eqR, eqD_nn, eqD_bb, eqD_ii, eqD_ss, eqD_tt, eqD_ll, eqD_bi, eqD_ib, eqD_nt, eqD_tn, eqD_it, eqD_ti, eqD_ni, eqD_in, eqDs_nn, eqDs_cc, eqDs_nc, eqDs_cn, cmpD, cmpDs, depD, depDs, isNon, isNR, chainE, tvE, andV, orV, notV, ifE, slEV, ixR, callV, lenC, isiC, tyN, pick, retEV, callP, argD, argDs, seqS, bkS, ctS, exprS, retS, retNS, ifS, evSl, setS, SK.loop, gN, gNil, gCons, gT, asgS, parS, defF, defK, raiseS, absC, divmodC, mmC, stL, itL, itT, itR1, itR2, itE, shL, itZ, itV, forS, evD, methL, appL, clrL, popL, insL, trL, extL, setixS, argS, argSs, callI, callN, hereA, nextA, negE, itS, wipeR, compE, compD, yesT, seqD, listC, tupC, numd, zipd, nxS, frSl, retSl, retSls, retOk, retOks, tryAsS, tryOnlyS, lookB, kinE, xfE, lookF, frzE, isTR, isTB, allC, blsD, gU, raiseIS, at0, at1, at2, at3, lrE, sortC, intC, intsD, slE, intO, cutD, borS, borT, bkR, okRho, eqXR, slX, addT, repT, tryMixS, mixH, suK, suR, suL, F__law_plus, F_plus, F_two, Rat.den_nz, nd]
  refine ⟨by (repeat' with_reducible apply And.intro) <;> try first | assumption | exact Sm.n (by assumption) | exact Sm.d (by assumption) | exact Si.mono (by assumption) (by decide) | exact dpos _ | exact Rat.nz _ | exact Rat.den_nz _, ?_⟩
  refine loop_inv (fun j ρ => ∃ x5 x6 x7, ρ = [.v (.lst st (bs.map wD)), .v (frD L), .v (frD t), .v (frD (L + L)), .l (((bs.take j).map (shW L t)).map wD), x5, x6, x7]) ⟨.no, .no, .no, by simp⟩ ?_ ?_
  · rintro j e ρ K2 he ⟨x5, x6, x7, rfl⟩ next
    rw [List.getElem?_map] at he
    obtain ⟨b, hb, rfl⟩ := Option.map_eq_some_iff.mp he
    obtain ⟨sp, su⟩ := ok.sz b (List.mem_of_getElem? hb)
    have sut := su.mul stt
    have sq := sut.quo sT tn
    have sk := fl_si sq
    have dv : DivOk (b.u * t / (L + L)).num ((b.u * t / (L + L)).den : Int) := divOk_of sq.2 (by decide) (den_ne _)
    have fe : (b.u * t / (L + L)).num.fdiv ((b.u * t / (L + L)).den : Int) = fl (b.u * t / (L + L)) := Int.fdiv_eq_ediv_of_nonneg _ (by have := den_pos (b.u * t / (L + L)); omega)
    have nx := next [.v (.lst st (bs.map wD)), .v (frD L), .v (frD t), .v (frD (L + L)), .l (((bs.take (j + 1)).map (shW L t)).map wD), .v (wD b), .v (frD (b.u * t / (L + L))), .v (frD ((fl (b.u * t / (L + L)) : Rat) * (L + L)))] ⟨_, _, _, rfl⟩
    have tk : bs.take (j + 1) = bs.take j ++ [b] := by rw [List.take_add_one, hb]; rfl
    rw [tk, List.map_append, List.map_append] at nx
    have ll : (((bs.take j).map (shW L t)).map wD).length ≤ 12 := by simp; omega
    generalize ((bs.take j).map (shW L t)).map wD = XD at *
    have d1 : ∀ q : Rat, q / 1 = q := fun q => by grind
    simp [cE, vE, bE, rE, fE, mE, bin, nilA, consA, bT, andT, orT, notT, tupE, lstE, allV, allM, okB, intR, addR, asL, asT, asD, eqR, eqD_nn, eqD_bb, eqD_ii, eqD_ss, eqD_tt, eqD_ll, eqD_bi, eqD_ib, eqD_nt, eqD_tn, eqD_it, eqD_ti, eqD_ni, eqD_in, eqDs_nn, eqDs_cc, eqDs_nc, eqDs_cn, cmpD, cmpDs, depD, depDs, isNon, isNR, chainE, tvE, andV, orV, notV, ifE, slEV, ixR, callV, lenC, isiC, tyN, pick, retEV, callP, argD, argDs, seqS, bkS, ctS, exprS, retS, retNS, ifS, evSl, setS, SK.loop, gN, gNil, gCons, gT, asgS, parS, defF, defK, raiseS, absC, divmodC, mmC, stL, itL, itT, itR1, itR2, itE, shL, itZ, itV, forS, evD, methL, appL, clrL, popL, insL, trL, extL, setixS, argS, argSs, callI, callN, hereA, nextA, negE, itS, wipeR, compE, compD, yesT, seqD, listC, tupC, numd, zipd, nxS, frSl, retSl, retSls, retOk, retOks, tryAsS, tryOnlyS, lookB, kinE, xfE, lookF, frzE, isTR, isTB, allC, blsD, gU, raiseIS, at0, at1, at2, at3, lrE, sortC, intC, intsD, slE, intO, cutD, borS, borT, bkR, okRho, eqXR, slX, addT, repT, tryMixS, mixH, suK, suR, suL, wD, F__law_times, F__law_over, F__law_minus, F_minus, F_times, F_two, Rat.den_nz, nd, nn, dv, fe, d1]
    have z1 : Si 4000 (1 : Int) := by unfold Si; decide
    have su4 := su.mono (m := 4000) (by decide)
    have st4 := stt.mono (m := 4000) (by decide)
    have sT4 := sT.mono (m := 4000) (by decide)
    have sp4 := sp.mono (m := 4000) (by decide)
    have sut4 := sut.mono (m := 4000) (by decide)
    have sm4 := ((Sm.int sk).mul sT).mono (m := 4000) (by decide)
    exact ⟨⟨su4.n, su4.d, st4.n, st4.d⟩, ⟨sut4.n, sut4.d, sT4.n, sT4.d⟩, ⟨sk.mono (by decide), z1, sT4.n, sT4.d⟩, ⟨sp4.n, sp4.d, sm4.n, sm4.d⟩, by omega, nx⟩
  · rintro ρ ⟨x5, x6, x7, rfl⟩
    rw [List.length_map, List.take_length]
    simp [cE, vE, bE, rE, fE, mE, bin, nilA, consA, bT, andT, orT, notT, tupE, lstE, allV, allM, okB, intR, addR, asL, asT, asD, eqR, eqD_nn, eqD_bb, eqD_ii, eqD_ss, eqD_tt, eqD_ll, eqD_bi, eqD_ib, eqD_nt, eqD_tn, eqD_it, eqD_ti, eqD_ni, eqD_in, eqDs_nn, eqDs_cc, eqDs_nc, eqDs_cn, cmpD, cmpDs, depD, depDs, isNon, isNR, chainE, tvE, andV, orV, notV, ifE, slEV, ixR, callV, lenC, isiC, tyN, pick, retEV, callP, argD, argDs, seqS, bkS, ctS, exprS, retS, retNS, ifS, evSl, setS, SK.loop, gN, gNil, gCons, gT, asgS, parS, defF, defK, raiseS, absC, divmodC, mmC, stL, itL, itT, itR1, itR2, itE, shL, itZ, itV, forS, evD, methL, appL, clrL, popL, insL, trL, extL, setixS, argS, argSs, callI, callN, hereA, nextA, negE, itS, wipeR, compE, compD, yesT, seqD, listC, tupC, numd, zipd, nxS, frSl, retSl, retSls, retOk, retOks, tryAsS, tryOnlyS, lookB, kinE, xfE, lookF, frzE, isTR, isTB, allC, blsD, gU, raiseIS, at0, at1, at2, at3, lrE, sortC, intC, intsD, slE, intO, cutD, borS, borT, bkR, okRho, eqXR, slX, addT, repT, tryMixS, mixH, suK, suR, suL]
    refine ⟨_, bs, L, t, by rw [List.map_map], ⟨ok, stt⟩, ?_⟩
    obtain ⟨c1, d1⟩ := cmp_ws bs
    obtain ⟨c2, d2⟩ := cmp_ws (rmL L t bs)
    have hh := h (eqDs ((rmL L t bs).map wD) (bs.map wD)) (eqDs_w _ _)
    generalize (rmL L t bs).map wD = RD at *
    generalize bs.map wD = BD at *
    simp [cE, vE, bE, rE, fE, mE, bin, nilA, consA, bT, andT, orT, notT, tupE, lstE, allV, allM, okB, intR, addR, asL, asT, asD, eqR, eqD_nn, eqD_bb, eqD_ii, eqD_ss, eqD_tt, eqD_ll, eqD_bi, eqD_ib, eqD_nt, eqD_tn, eqD_it, eqD_ti, eqD_ni, eqD_in, eqDs_nn, eqDs_cc, eqDs_nc, eqDs_cn, cmpD, cmpDs, depD, depDs, isNon, isNR, chainE, tvE, andV, orV, notV, ifE, slEV, ixR, callV, lenC, isiC, tyN, pick, retEV, callP, argD, argDs, seqS, bkS, ctS, exprS, retS, retNS, ifS, evSl, setS, SK.loop, gN, gNil, gCons, gT, asgS, parS, defF, defK, raiseS, absC, divmodC, mmC, stL, itL, itT, itR1, itR2, itE, shL, itZ, itV, forS, evD, methL, appL, clrL, popL, insL, trL, extL, setixS, argS, argSs, callI, callN, hereA, nextA, negE, itS, wipeR, compE, compD, yesT, seqD, listC, tupC, numd, zipd, nxS, frSl, retSl, retSls, retOk, retOks, tryAsS, tryOnlyS, lookB, kinE, xfE, lookF, frzE, isTR, isTB, allC, blsD, gU, raiseIS, at0, at1, at2, at3, lrE, sortC, intC, intsD, slE, intO, cutD, borS, borT, bkR, okRho, eqXR, slX, addT, repT, tryMixS, mixH, suK, suR, suL]
    exact ⟨⟨c2, c1, by omega⟩, hh⟩
theorem due_sm {T q : Rat} (sT : Sm 161 T) {k : Nat} (k1 : 1 ≤ k) (k2 : k ≤ 72) (e : (k : Rat) * q = 6 * T) : Sm 180 q := by
  have k0 : ((k : Nat) : Rat) ≠ 0 := by exact_mod_cast (by omega : k ≠ 0)
  have e2 : q = ((6 : Int) : Rat) * T / (((k : Nat) : Int) : Rat) := by
    rw [nQ]
    have : ((6 : Int) : Rat) = 6 := rfl
    rw [this]; grind
  rw [e2]
  refine (((Sm.int (n := 3) (a := 6) (by unfold Si; decide)).mul sT).quo (Sm.int (n := 7) (a := ((k : Nat) : Int)) (by unfold Si; omega)) (by rw [nQ]; exact k0)).mono (by decide)
theorem due_sm2 {T q : Rat} (sT : Sm 161 T) {k : Nat} (k1 : 1 ≤ k) (k2 : k < 2 ^ 22) (e : (k : Rat) * q = 6 * T) : Sm 200 q := by
  have k0 : ((k : Nat) : Rat) ≠ 0 := by exact_mod_cast (by omega : k ≠ 0)
  have e2 : q = ((6 : Int) : Rat) * T / (((k : Nat) : Int) : Rat) := by
    rw [nQ]
    have : ((6 : Int) : Rat) = 6 := rfl
    rw [this]; grind
  rw [e2]
  refine (((Sm.int (n := 3) (a := 6) (by unfold Si; decide)).mul sT).quo (Sm.int (n := 22) (a := ((k : Nat) : Int)) (by unfold Si; omega)) (by rw [nQ]; exact k0)).mono (by decide)
def prs5 : List Nat := [2, 3, 5, 7, 11]
theorem to__law_due : ∀ ss K E, F__law_due ss K E → defF [false, false] 6 sf__law_due ss K E := fun ss K E h => by
  obtain ⟨st, bs, L, rfl, ⟨ok, sx⟩, h⟩ := h
  have L0 := ok.l0
  have hl := ok.le
  have T0 : 0 < L + L := by grind
  have sL := ok.sl
  have sT := sL.add sL
  have sT4 := sT.mono (m := 4000) (by decide)
  have sL4 := sL.mono (m := 4000) (by decide)
  obtain ⟨m, _, _, wt⟩ := ok.wt
  simp [sf__law_due, cE, vE, bE, rE, fE, mE, bin, nilA, consA, bT, andT, orT, notT, tupE, lstE, allV, allM, okB, intR, addR, asL, asT, asD, eqR, eqD_nn, eqD_bb, eqD_ii, eqD_ss, eqD_tt, eqD_ll, eqD_bi, eqD_ib, eqD_nt, eqD_tn, eqD_it, eqD_ti, eqD_ni, eqD_in, eqDs_nn, eqDs_cc, eqDs_nc, eqDs_cn, cmpD, cmpDs, depD, depDs, isNon, isNR, chainE, tvE, andV, orV, notV, ifE, slEV, ixR, callV, lenC, isiC, tyN, pick, retEV, callP, argD, argDs, seqS, bkS, ctS, exprS, retS, retNS, ifS, evSl, setS, SK.loop, gN, gNil, gCons, gT, asgS, parS, defF, defK, raiseS, absC, divmodC, mmC, stL, itL, itT, itR1, itR2, itE, shL, itZ, itV, forS, evD, methL, appL, clrL, popL, insL, trL, extL, setixS, argS, argSs, callI, callN, hereA, nextA, negE, itS, wipeR, compE, compD, yesT, seqD, listC, tupC, numd, zipd, nxS, frSl, retSl, retSls, retOk, retOks, tryAsS, tryOnlyS, lookB, kinE, xfE, lookF, frzE, isTR, isTB, allC, blsD, gU, raiseIS, at0, at1, at2, at3, lrE, sortC, intC, intsD, slE, intO, cutD, borS, borT, bkR, okRho, eqXR, slX, addT, repT, tryMixS, mixH, suK, suR, suL]
  refine loop_inv (fun j ρ => ∃ x3 x4 x5, ρ = [.v (.lst st (bs.map wD)), .v (frD L), .v (rdD (dueW (bs.take j) (L + L))), x3, x4, x5]) ⟨.no, .no, .no, by simp [rdD, dueW]⟩ ?_ ?_
  · rintro j e ρ K2 he ⟨x3, x4, x5, rfl⟩ next
    rw [List.getElem?_map] at he
    obtain ⟨b, hb, rfl⟩ := Option.map_eq_some_iff.mp he
    have mb := List.mem_of_getElem? hb
    obtain ⟨sp, su⟩ := ok.sz b mb
    have lj := (List.getElem?_eq_some_iff.mp hb).1
    have dt := due_take bs (L + L) j hb
    have nz : b.u.num = 0 ↔ b.u = 0 := Rat.num_eq_zero
    by_cases n : b.u = 0
    · have nx := next [.v (.lst st (bs.map wD)), .v (frD L), .v (rdD (dueW (bs.take (j + 1)) (L + L))), .v (wD b), x4, x5] ⟨_, _, _, rfl⟩
      rw [dt] at nx
      unfold dueF at nx
      rw [if_pos n] at nx
      simp only [wD, n] at nx
      simp [cE, vE, bE, rE, fE, mE, bin, nilA, consA, bT, andT, orT, notT, tupE, lstE, allV, allM, okB, intR, addR, asL, asT, asD, eqR, eqD_nn, eqD_bb, eqD_ii, eqD_ss, eqD_tt, eqD_ll, eqD_bi, eqD_ib, eqD_nt, eqD_tn, eqD_it, eqD_ti, eqD_ni, eqD_in, eqDs_nn, eqDs_cc, eqDs_nc, eqDs_cn, cmpD, cmpDs, depD, depDs, isNon, isNR, chainE, tvE, andV, orV, notV, ifE, slEV, ixR, callV, lenC, isiC, tyN, pick, retEV, callP, argD, argDs, seqS, bkS, ctS, exprS, retS, retNS, ifS, evSl, setS, SK.loop, gN, gNil, gCons, gT, asgS, parS, defF, defK, raiseS, absC, divmodC, mmC, stL, itL, itT, itR1, itR2, itE, shL, itZ, itV, forS, evD, methL, appL, clrL, popL, insL, trL, extL, setixS, argS, argSs, callI, callN, hereA, nextA, negE, itS, wipeR, compE, compD, yesT, seqD, listC, tupC, numd, zipd, nxS, frSl, retSl, retSls, retOk, retOks, tryAsS, tryOnlyS, lookB, kinE, xfE, lookF, frzE, isTR, isTB, allC, blsD, gU, raiseIS, at0, at1, at2, at3, lrE, sortC, intC, intsD, slE, intO, cutD, borS, borT, bkR, okRho, eqXR, slX, addT, repT, tryMixS, mixH, suK, suR, suL, wD, nz, n]
      exact nx
    · have o0 := own_pos T0 n
      have so : Sm 400 (ownQ (L + L) b) := (sT.quo (gr_sm su) (by have := gr_pos n; grind)).mono (by decide)
      have gn : ¬ (gr b.u).num = 0 := fun z => by have := Rat.num_eq_zero.mp z; have := gr_pos n; grind
      have sg := (gr_sm su).mono (m := 4000) (by decide)
      have nx := next [.v (.lst st (bs.map wD)), .v (frD L), .v (rdD (dueW (bs.take (j + 1)) (L + L))), .v (wD b), .v (frD (ownQ (L + L) b)), x5] ⟨_, _, _, rfl⟩
      rw [dt] at nx
      unfold dueF at nx
      rw [if_neg n] at nx
      simp [cE, vE, bE, rE, fE, mE, bin, nilA, consA, bT, andT, orT, notT, tupE, lstE, allV, allM, okB, intR, addR, asL, asT, asD, eqR, eqD_nn, eqD_bb, eqD_ii, eqD_ss, eqD_tt, eqD_ll, eqD_bi, eqD_ib, eqD_nt, eqD_tn, eqD_it, eqD_ti, eqD_ni, eqD_in, eqDs_nn, eqDs_cc, eqDs_nc, eqDs_cn, cmpD, cmpDs, depD, depDs, isNon, isNR, chainE, tvE, andV, orV, notV, ifE, slEV, ixR, callV, lenC, isiC, tyN, pick, retEV, callP, argD, argDs, seqS, bkS, ctS, exprS, retS, retNS, ifS, evSl, setS, SK.loop, gN, gNil, gCons, gT, asgS, parS, defF, defK, raiseS, absC, divmodC, mmC, stL, itL, itT, itR1, itR2, itE, shL, itZ, itV, forS, evD, methL, appL, clrL, popL, insL, trL, extL, setixS, argS, argSs, callI, callN, hereA, nextA, negE, itS, wipeR, compE, compD, yesT, seqD, listC, tupC, numd, zipd, nxS, frSl, retSl, retSls, retOk, retOks, tryAsS, tryOnlyS, lookB, kinE, xfE, lookF, frzE, isTR, isTB, allC, blsD, gU, raiseIS, at0, at1, at2, at3, lrE, sortC, intC, intsD, slE, intO, cutD, borS, borT, bkR, okRho, eqXR, slX, addT, repT, tryMixS, mixH, suK, suR, suL, wD, nz, n, F__law_plus, F_plus, F__law_over, F_two, Rat.den_nz, nd]
      have g1 : (if b.u.num < 0 then -b.u.num else b.u.num) = (gr b.u).num := by
        unfold gr
        by_cases c : b.u < 0
        · rw [if_pos c, if_pos (num_neg.mpr c), Rat.neg_num]
        · rw [if_neg c, if_neg fun z => c (num_neg.mp z)]
      have g2 : b.u.den = (gr b.u).den := by
        unfold gr
        split
        · rw [Rat.neg_den]
        · rfl
      rw [g1, g2, nd]
      refine ⟨⟨sL4.n, sL4.d, sL4.n, sL4.d⟩, ⟨gn, sT4.n, sT4.d, sg.n, sg.d⟩, ?_⟩
      have eo : (L + L) / gr b.u = ownQ (L + L) b := rfl
      rw [eo]
      cases ed : dueW (bs.take j) (L + L) with
      | none =>
        rw [ed] at nx
        simp [rdD]
        refine ⟨_, _, rfl, ⟨o0, o0, so, so⟩, ?_⟩
        simp [cE, vE, bE, rE, fE, mE, bin, nilA, consA, bT, andT, orT, notT, tupE, lstE, allV, allM, okB, intR, addR, asL, asT, asD, eqR, eqD_nn, eqD_bb, eqD_ii, eqD_ss, eqD_tt, eqD_ll, eqD_bi, eqD_ib, eqD_nt, eqD_tn, eqD_it, eqD_ti, eqD_ni, eqD_in, eqDs_nn, eqDs_cc, eqDs_nc, eqDs_cn, cmpD, cmpDs, depD, depDs, isNon, isNR, chainE, tvE, andV, orV, notV, ifE, slEV, ixR, callV, lenC, isiC, tyN, pick, retEV, callP, argD, argDs, seqS, bkS, ctS, exprS, retS, retNS, ifS, evSl, setS, SK.loop, gN, gNil, gCons, gT, asgS, parS, defF, defK, raiseS, absC, divmodC, mmC, stL, itL, itT, itR1, itR2, itE, shL, itZ, itV, forS, evD, methL, appL, clrL, popL, insL, trL, extL, setixS, argS, argSs, callI, callN, hereA, nextA, negE, itS, wipeR, compE, compD, yesT, seqD, listC, tupC, numd, zipd, nxS, frSl, retSl, retSls, retOk, retOks, tryAsS, tryOnlyS, lookB, kinE, xfE, lookF, frzE, isTR, isTB, allC, blsD, gU, raiseIS, at0, at1, at2, at3, lrE, sortC, intC, intsD, slE, intO, cutD, borS, borT, bkR, okRho, eqXR, slX, addT, repT, tryMixS, mixH, suK, suR, suL]
        exact nx
      | some q =>
        rw [ed] at nx
        obtain ⟨k, k1, k2, ek⟩ := due_six T0 sx (by omega) ed
        have sq := due_sm (sT.mono (by decide)) k1 k2 ek
        have q0 : 0 < q := by
          rcases due_all T0 bs j (by omega) with ⟨_, z⟩ | ⟨_, q', e2, q0, _⟩
          · rw [ed] at z; cases z
          · rw [ed] at e2; cases e2; exact q0
        simp [rdD]
        refine ⟨q, _, rfl, ⟨q0, o0, sq.mono (by decide), so⟩, ?_⟩
        simp [cE, vE, bE, rE, fE, mE, bin, nilA, consA, bT, andT, orT, notT, tupE, lstE, allV, allM, okB, intR, addR, asL, asT, asD, eqR, eqD_nn, eqD_bb, eqD_ii, eqD_ss, eqD_tt, eqD_ll, eqD_bi, eqD_ib, eqD_nt, eqD_tn, eqD_it, eqD_ti, eqD_ni, eqD_in, eqDs_nn, eqDs_cc, eqDs_nc, eqDs_cn, cmpD, cmpDs, depD, depDs, isNon, isNR, chainE, tvE, andV, orV, notV, ifE, slEV, ixR, callV, lenC, isiC, tyN, pick, retEV, callP, argD, argDs, seqS, bkS, ctS, exprS, retS, retNS, ifS, evSl, setS, SK.loop, gN, gNil, gCons, gT, asgS, parS, defF, defK, raiseS, absC, divmodC, mmC, stL, itL, itT, itR1, itR2, itE, shL, itZ, itV, forS, evD, methL, appL, clrL, popL, insL, trL, extL, setixS, argS, argSs, callI, callN, hereA, nextA, negE, itS, wipeR, compE, compD, yesT, seqD, listC, tupC, numd, zipd, nxS, frSl, retSl, retSls, retOk, retOks, tryAsS, tryOnlyS, lookB, kinE, xfE, lookF, frzE, isTR, isTB, allC, blsD, gU, raiseIS, at0, at1, at2, at3, lrE, sortC, intC, intsD, slE, intO, cutD, borS, borT, bkR, okRho, eqXR, slX, addT, repT, tryMixS, mixH, suK, suR, suL]
        exact nx
  · rintro ρ ⟨x3, x4, x5, rfl⟩
    rw [List.length_map, List.take_length]
    have ra := round_all L0 ok.inc ok.win wt
    have da := due_all T0 bs bs.length (Nat.le_refl _)
    rw [List.take_length] at da
    rcases ra with ⟨a1, a2⟩ | ⟨⟨b0, hb0, n0⟩, q, a2, q0, a3⟩
    · rcases da with ⟨_, e⟩ | ⟨⟨b, hb, n⟩, _⟩
      · rw [e]
        rw [a2] at h
        simp [cE, vE, bE, rE, fE, mE, bin, nilA, consA, bT, andT, orT, notT, tupE, lstE, allV, allM, okB, intR, addR, asL, asT, asD, eqR, eqD_nn, eqD_bb, eqD_ii, eqD_ss, eqD_tt, eqD_ll, eqD_bi, eqD_ib, eqD_nt, eqD_tn, eqD_it, eqD_ti, eqD_ni, eqD_in, eqDs_nn, eqDs_cc, eqDs_nc, eqDs_cn, cmpD, cmpDs, depD, depDs, isNon, isNR, chainE, tvE, andV, orV, notV, ifE, slEV, ixR, callV, lenC, isiC, tyN, pick, retEV, callP, argD, argDs, seqS, bkS, ctS, exprS, retS, retNS, ifS, evSl, setS, SK.loop, gN, gNil, gCons, gT, asgS, parS, defF, defK, raiseS, absC, divmodC, mmC, stL, itL, itT, itR1, itR2, itE, shL, itZ, itV, forS, evD, methL, appL, clrL, popL, insL, trL, extL, setixS, argS, argSs, callI, callN, hereA, nextA, negE, itS, wipeR, compE, compD, yesT, seqD, listC, tupC, numd, zipd, nxS, frSl, retSl, retSls, retOk, retOks, tryAsS, tryOnlyS, lookB, kinE, xfE, lookF, frzE, isTR, isTB, allC, blsD, gU, raiseIS, at0, at1, at2, at3, lrE, sortC, intC, intsD, slE, intO, cutD, borS, borT, bkR, okRho, eqXR, slX, addT, repT, tryMixS, mixH, suK, suR, suL, rdD]
        exact h
      · exact absurd (a1 b hb) n
    · rcases da with ⟨z, _⟩ | ⟨_, U, e, U0, _⟩
      · exact absurd (z b0 hb0) n0
      · obtain ⟨N, hN, eD⟩ := due_round hl L0 ok.inc ok.win wt e a2
        obtain ⟨k, k1, k2, ek⟩ := due_six T0 sx (Nat.le_refl bs.length) (by rw [List.take_length]; exact e)
        rw [e]
        rw [a2] at h
        have N0 : 0 < N := Nat.pos_of_dvd_of_pos hN (by decide)
        have Nle : N ≤ 27720 := Nat.le_of_dvd (by decide) hN
        have sz : ∀ n : Nat, n ∣ N → 0 < n → Sm 200 ((n : Rat) * q) := fun n hn n0 => by
          obtain ⟨c, hc⟩ := hn
          have c0 : 0 < c := Nat.pos_of_ne_zero fun z => by rw [z] at hc; omega
          have cl : c ≤ 27720 := by
            have : 1 * c ≤ n * c := Nat.mul_le_mul_right c n0
            omega
          refine due_sm2 (k := k * c) (sT.mono (by decide)) (Nat.mul_pos k1 c0) ?_ ?_
          · have : k * c ≤ 72 * 27720 := Nat.mul_le_mul k2 cl
            omega
          · have e3 : ((k * c : Nat) : Rat) = (k : Rat) * (c : Rat) := Rat.natCast_mul ..
            have e4 : (N : Rat) = (n : Rat) * (c : Rat) := by rw [hc]; exact Rat.natCast_mul ..
            rw [e3]
            rw [eD, e4] at ek
            grind
        rw [eD]
        simp [cE, vE, bE, rE, fE, mE, bin, nilA, consA, bT, andT, orT, notT, tupE, lstE, allV, allM, okB, intR, addR, asL, asT, asD, eqR, eqD_nn, eqD_bb, eqD_ii, eqD_ss, eqD_tt, eqD_ll, eqD_bi, eqD_ib, eqD_nt, eqD_tn, eqD_it, eqD_ti, eqD_ni, eqD_in, eqDs_nn, eqDs_cc, eqDs_nc, eqDs_cn, cmpD, cmpDs, depD, depDs, isNon, isNR, chainE, tvE, andV, orV, notV, ifE, slEV, ixR, callV, lenC, isiC, tyN, pick, retEV, callP, argD, argDs, seqS, bkS, ctS, exprS, retS, retNS, ifS, evSl, setS, SK.loop, gN, gNil, gCons, gT, asgS, parS, defF, defK, raiseS, absC, divmodC, mmC, stL, itL, itT, itR1, itR2, itE, shL, itZ, itV, forS, evD, methL, appL, clrL, popL, insL, trL, extL, setixS, argS, argSs, callI, callN, hereA, nextA, negE, itS, wipeR, compE, compD, yesT, seqD, listC, tupC, numd, zipd, nxS, frSl, retSl, retSls, retOk, retOks, tryAsS, tryOnlyS, lookB, kinE, xfE, lookF, frzE, isTR, isTB, allC, blsD, gU, raiseIS, at0, at1, at2, at3, lrE, sortC, intC, intsD, slE, intO, cutD, borS, borT, bkR, okRho, eqXR, slX, addT, repT, tryMixS, mixH, suK, suR, suL, rdD]
        have el : [D.int 2, .int 3, .int 5, .int 7, .int 11] = prs5.map fun p => D.int (p : Nat) := rfl
        rw [el]
        refine loop_inv (fun j ρ => ∃ (n : Nat) (x5 : Sl), ρ = [.v (.lst st (bs.map wD)), .v (frD L), .v (frD ((n : Rat) * q)), x3, x4, x5] ∧ 0 < n ∧ n ∣ N ∧ ∀ i, i < j → ∀ p, prs5[i]? = some p → ¬ p ∣ n) ⟨N, _, rfl, N0, Nat.dvd_refl _, fun i hi => absurd hi (by omega)⟩ ?_ ?_
        · rintro j d ρ K2 he ⟨n, x5, rfl, n0, hn, hp⟩ next
          rw [List.getElem?_map] at he
          obtain ⟨p, hpj, rfl⟩ := Option.map_eq_some_iff.mp he
          have p2 : 2 ≤ p ∧ p ≤ 11 := by
            have := List.mem_of_getElem? hpj
            simp [prs5] at this
            omega
          have pn : ¬ (p : Int) = 0 := by omega
          simp [cE, vE, bE, rE, fE, mE, bin, nilA, consA, bT, andT, orT, notT, tupE, lstE, allV, allM, okB, intR, addR, asL, asT, asD, eqR, eqD_nn, eqD_bb, eqD_ii, eqD_ss, eqD_tt, eqD_ll, eqD_bi, eqD_ib, eqD_nt, eqD_tn, eqD_it, eqD_ti, eqD_ni, eqD_in, eqDs_nn, eqDs_cc, eqDs_nc, eqDs_cn, cmpD, cmpDs, depD, depDs, isNon, isNR, chainE, tvE, andV, orV, notV, ifE, slEV, ixR, callV, lenC, isiC, tyN, pick, retEV, callP, argD, argDs, seqS, bkS, ctS, exprS, retS, retNS, ifS, evSl, setS, SK.loop, gN, gNil, gCons, gT, asgS, parS, defF, defK, raiseS, absC, divmodC, mmC, stL, itL, itT, itR1, itR2, itE, shL, itZ, itV, forS, evD, methL, appL, clrL, popL, insL, trL, extL, setixS, argS, argSs, callI, callN, hereA, nextA, negE, itS, wipeR, compE, compD, yesT, seqD, listC, tupC, numd, zipd, nxS, frSl, retSl, retSls, retOk, retOks, tryAsS, tryOnlyS, lookB, kinE, xfE, lookF, frzE, isTR, isTB, allC, blsD, gU, raiseIS, at0, at1, at2, at3, lrE, sortC, intC, intsD, slE, intO, cutD, borS, borT, bkR, okRho, eqXR, slX, addT, repT, tryMixS, mixH, suK, suR, suL]
          refine while_inv (n := n) (fun m ρ => ρ = [.v (.lst st (bs.map wD)), .v (frD L), .v (frD ((m : Rat) * q)), x3, x4, .v (.int (p : Nat))] ∧ 0 < m ∧ m ∣ n) ⟨rfl, n0, Nat.dvd_refl _⟩ ?_
          rintro m' ρ K3 ⟨rfl, m0, hm⟩ next3
          have hmN := Nat.dvd_trans hm hn
          have sm := sz m' hmN m0
          have sm4 := sm.mono (m := 4000) (by decide)
          have pi := part_iff (n := m') (p := p) q0 a3 (by omega)
          have sp : Si 4 (p : Int) := by unfold Si; omega
          have e1p : ((1 : Rat)) / (((p : Nat) : Int) : Rat) = 1 / (p : Rat) := by rw [nQ]
          have s1p : Sm 5 (1 / (p : Rat)) := by
            have := (Sm.div (n := 4) (m := 4) (a := 1) (b := (p : Int)) (by unfold Si; decide) sp pn).mono (m := 5) (by decide)
            rw [nQ] at this
            exact this
          simp [cE, vE, bE, rE, fE, mE, bin, nilA, consA, bT, andT, orT, notT, tupE, lstE, allV, allM, okB, intR, addR, asL, asT, asD, eqR, eqD_nn, eqD_bb, eqD_ii, eqD_ss, eqD_tt, eqD_ll, eqD_bi, eqD_ib, eqD_nt, eqD_tn, eqD_it, eqD_ti, eqD_ni, eqD_in, eqDs_nn, eqDs_cc, eqDs_nc, eqDs_cn, cmpD, cmpDs, depD, depDs, isNon, isNR, chainE, tvE, andV, orV, notV, ifE, slEV, ixR, callV, lenC, isiC, tyN, pick, retEV, callP, argD, argDs, seqS, bkS, ctS, exprS, retS, retNS, ifS, evSl, setS, SK.loop, gN, gNil, gCons, gT, asgS, parS, defF, defK, raiseS, absC, divmodC, mmC, stL, itL, itT, itR1, itR2, itE, shL, itZ, itV, forS, evD, methL, appL, clrL, popL, insL, trL, extL, setixS, argS, argSs, callI, callN, hereA, nextA, negE, itS, wipeR, compE, compD, yesT, seqD, listC, tupC, numd, zipd, nxS, frSl, retSl, retSls, retOk, retOks, tryAsS, tryOnlyS, lookB, kinE, xfE, lookF, frzE, isTR, isTB, allC, blsD, gU, raiseIS, at0, at1, at2, at3, lrE, sortC, intC, intsD, slE, intO, cutD, borS, borT, bkR, okRho, eqXR, slX, addT, repT, tryMixS, mixH, suK, suR, suL, F__law_times, F_times, F_two, Rat.den_nz, nd]
          have c4 : ¬p = 0 ∧ Si 4000 ((m' : Rat) * q).num ∧ Si 4000 (((m' : Rat) * q).den : Int) ∧ Si 4000 1 ∧ Si 4000 (p : Int) := ⟨by omega, sm4.n, sm4.d, by unfold Si; decide, sp.mono (by decide)⟩
          have epp : (m' : Rat) * q * (1 / (((p : Nat) : Int) : Rat)) = (m' : Rat) * q * (1 / (p : Rat)) := by rw [nQ]
          refine ⟨c4, st, bs, L, _, rfl, ⟨ok, ?_⟩, fun r hr => ?_⟩
          · rw [epp]
            exact (sm.mul s1p).mono (by decide)
          · rw [epp, pi] at hr
            cases r with
            | true =>
              simp
              refine ⟨c4, ?_⟩
              obtain ⟨c, hc⟩ := hr.mp rfl
              have c0 : 0 < c := Nat.pos_of_ne_zero fun z => by rw [z] at hc; omega
              have ec : (m' : Rat) * q * (1 / (((p : Nat) : Int) : Rat)) = (c : Rat) * q := by
                have e4 : (m' : Rat) = (p : Rat) * (c : Rat) := by rw [hc]; exact Rat.natCast_mul ..
                have p0 : ((p : Nat) : Rat) ≠ 0 := by exact_mod_cast (by omega : p ≠ 0)
                rw [nQ, e4]; grind
              rw [ec]
              refine next3 c _ ?_ ⟨rfl, c0, Nat.dvd_trans ⟨p, by rw [hc, Nat.mul_comm]⟩ hm⟩
              have : 2 * c ≤ p * c := Nat.mul_le_mul_right c p2.1
              omega
            | false =>
              simp
              refine next _ ⟨m', _, rfl, m0, hmN, fun i hi p' hp' => ?_⟩
              by_cases w : i = j
              · subst w
                rw [hpj] at hp'
                cases hp'
                exact fun z => Bool.false_ne_true (hr.mpr z)
              · exact fun z => hp i (by omega) p' hp' (Nat.dvd_trans z hm)
        · rintro ρ ⟨n, x5, rfl, n0, hn, hp⟩
          have ll : (prs5.map fun p => D.int (p : Nat)).length = 5 := rfl
          rw [ll] at hp
          have n1 : n = 1 := strip_one (Nat.dvd_trans hn hN) (hp 0 (by omega) 2 rfl) (hp 1 (by omega) 3 rfl) (hp 2 (by omega) 5 rfl) (hp 3 (by omega) 7 rfl) (hp 4 (by omega) 11 rfl)
          subst n1
          have e1 : ((1 : Nat) : Rat) * q = q := by have : ((1 : Nat) : Rat) = 1 := rfl; grind
          rw [e1]
          simp [cE, vE, bE, rE, fE, mE, bin, nilA, consA, bT, andT, orT, notT, tupE, lstE, allV, allM, okB, intR, addR, asL, asT, asD, eqR, eqD_nn, eqD_bb, eqD_ii, eqD_ss, eqD_tt, eqD_ll, eqD_bi, eqD_ib, eqD_nt, eqD_tn, eqD_it, eqD_ti, eqD_ni, eqD_in, eqDs_nn, eqDs_cc, eqDs_nc, eqDs_cn, cmpD, cmpDs, depD, depDs, isNon, isNR, chainE, tvE, andV, orV, notV, ifE, slEV, ixR, callV, lenC, isiC, tyN, pick, retEV, callP, argD, argDs, seqS, bkS, ctS, exprS, retS, retNS, ifS, evSl, setS, SK.loop, gN, gNil, gCons, gT, asgS, parS, defF, defK, raiseS, absC, divmodC, mmC, stL, itL, itT, itR1, itR2, itE, shL, itZ, itV, forS, evD, methL, appL, clrL, popL, insL, trL, extL, setixS, argS, argSs, callI, callN, hereA, nextA, negE, itS, wipeR, compE, compD, yesT, seqD, listC, tupC, numd, zipd, nxS, frSl, retSl, retSls, retOk, retOks, tryAsS, tryOnlyS, lookB, kinE, xfE, lookF, frzE, isTR, isTB, allC, blsD, gU, raiseIS, at0, at1, at2, at3, lrE, sortC, intC, intsD, slE, intO, cutD, borS, borT, bkR, okRho, eqXR, slX, addT, repT, tryMixS, mixH, suK, suR, suL]
          exact h
theorem round_f {st : Bool} {bs : List Bw} {L : Rat} {K : EV → List Sl → Prop} {E : Exc → List Sl → Prop} (ok : RmOk bs L) (k : K (.v (rdD (rdW (tabW bs L) (L + L)))) []) : F_round_of [.v (.lst st (bs.map wD)), .v (frD L)] K E := by
  obtain ⟨m, _, _, wt⟩ := ok.wt
  refine ⟨st, bs, L, rfl, ⟨ok.le, fun b hb => ⟨(ok.sz b hb).1.mono (by decide), (ok.sz b hb).2.mono (by decide)⟩, ok.sl.mono (by decide)⟩, ?_⟩
  rw [wt_odd wt, ok.out]
  exact k
/-- all at rest -/
def stW (b : Bw) : Bw := ⟨b.p, 0, b.m⟩
theorem st_ok {bs : List Bw} {L : Rat} (ok : RmOk bs L) : RmOk (bs.map stW) L := by
  obtain ⟨m, m1, m2, wt⟩ := ok.wt
  refine ⟨by rw [List.length_map]; exact ok.ne, by rw [List.length_map]; exact ok.le, fun b hb => ?_, ⟨m, m1, m2, fun b hb => ?_⟩, List.pairwise_map.mpr ok.inc, fun b hb => ?_, ok.sl⟩
  · obtain ⟨c, hc, rfl⟩ := List.mem_map.mp hb
    exact ⟨(ok.sz c hc).1, by show Si 80 (0 : Int); unfold Si; decide, by show Si 80 (1 : Int); unfold Si; decide⟩
  · obtain ⟨c, hc, rfl⟩ := List.mem_map.mp hb
    exact wt c hc
  · obtain ⟨c, hc, rfl⟩ := List.mem_map.mp hb
    exact ok.win c hc
theorem st_none {bs : List Bw} {L : Rat} : rdW (tabW (bs.map stW) L) (L + L) = none := by
  have : ∀ (l : List Bw) (t : List (Rat × List Rat)), (l.map stW).foldl (fun t b => if b.u = 0 then t else addP t (gr b.u) (phR b L)) t = t := fun l => by
    induction l with
    | nil => intro t; rfl
    | cons b l ih => intro t; rw [List.map_cons, List.foldl_cons]; exact ih t
  unfold tabW
  rw [this]
  rfl
theorem rd_cmp (o : Option Rat) : cmpD (rdD o) = true ∧ eqD (rdD o) (rdD o) = true ∧ depD (rdD o) ≤ 5 := by
  cases o with
  | none => exact ⟨rfl, rfl, by decide⟩
  | some q => exact ⟨rfl, by rw [show rdD (some q) = frD q from rfl, eqD_fr]; simp, by simp [rdD, frD, depD, depDs]⟩
theorem to_law : ∀ ss K E, F_law ss K E → defF [false] 8 sf_law ss K E := fun ss K E h => by
  unfold F_law at h
  split at h
  · rename_i ds
    obtain ⟨⟨ns, rfl, hl, hb⟩, h⟩ := h
    have hs : isScript (ns.map .int) := ⟨ns, rfl, hl, fun n hn => Si.mono (n := 1048576) (bits_si (hb n hn)) (by decide)⟩
    simp [sf_law, cE, vE, bE, rE, fE, mE, bin, nilA, consA, bT, andT, orT, notT, tupE, lstE, allV, allM, okB, intR, addR, asL, asT, asD, eqR, eqD_nn, eqD_bb, eqD_ii, eqD_ss, eqD_tt, eqD_ll, eqD_bi, eqD_ib, eqD_nt, eqD_tn, eqD_it, eqD_ti, eqD_ni, eqD_in, eqDs_nn, eqDs_cc, eqDs_nc, eqDs_cn, cmpD, cmpDs, depD, depDs, isNon, isNR, chainE, tvE, andV, orV, notV, ifE, slEV, ixR, callV, lenC, isiC, tyN, pick, retEV, callP, argD, argDs, seqS, bkS, ctS, exprS, retS, retNS, ifS, evSl, setS, SK.loop, gN, gNil, gCons, gT, asgS, parS, defF, defK, raiseS, absC, divmodC, mmC, stL, itL, itT, itR1, itR2, itE, shL, itZ, itV, forS, evD, methL, appL, clrL, popL, insL, trL, extL, setixS, argS, argSs, callI, callN, hereA, nextA, negE, itS, wipeR, compE, compD, yesT, seqD, listC, tupC, numd, zipd, nxS, frSl, retSl, retSls, retOk, retOks, tryAsS, tryOnlyS, lookB, kinE, xfE, lookF, frzE, isTR, isTB, allC, blsD, gU, raiseIS, at0, at1, at2, at3, lrE, sortC, intC, intsD, slE, intO, cutD, borS, borT, bkR, okRho, eqXR, slX, addT, repT, tryMixS, mixH, suK, suR, suL]
    generalize hm : (if 1 < if 2 < (ns.length : Int) then 2 else (ns.length : Int) then if 2 < (ns.length : Int) then 2 else (ns.length : Int) else 1) = mm
    have hmm : 0 ≤ mm ∧ mm ≤ 8 := by omega
    refine ⟨⟨by omega, by omega⟩, ?_⟩
    refine loop_inv (fun i ρ => ∃ x1 x2 x3 x4 x5 x6 x7, ρ = [.v (.lst true (ns.map .int)), x1, x2, x3, x4, x5, x6, x7]) ⟨_, _, _, _, _, _, _, rfl⟩ ?_ ?_
    · rintro i d ρ K' hd ⟨x1, x2, x3, x4, x5, x6, x7, rfl⟩ next
      obtain ⟨hi, rfl⟩ := rngD_get hd
      simp [cE, vE, bE, rE, fE, mE, bin, nilA, consA, bT, andT, orT, notT, tupE, lstE, allV, allM, okB, intR, addR, asL, asT, asD, eqR, eqD_nn, eqD_bb, eqD_ii, eqD_ss, eqD_tt, eqD_ll, eqD_bi, eqD_ib, eqD_nt, eqD_tn, eqD_it, eqD_ti, eqD_ni, eqD_in, eqDs_nn, eqDs_cc, eqDs_nc, eqDs_cn, cmpD, cmpDs, depD, depDs, isNon, isNR, chainE, tvE, andV, orV, notV, ifE, slEV, ixR, callV, lenC, isiC, tyN, pick, retEV, callP, argD, argDs, seqS, bkS, ctS, exprS, retS, retNS, ifS, evSl, setS, SK.loop, gN, gNil, gCons, gT, asgS, parS, defF, defK, raiseS, absC, divmodC, mmC, stL, itL, itT, itR1, itR2, itE, shL, itZ, itV, forS, evD, methL, appL, clrL, popL, insL, trL, extL, setixS, argS, argSs, callI, callN, hereA, nextA, negE, itS, wipeR, compE, compD, yesT, seqD, listC, tupC, numd, zipd, nxS, frSl, retSl, retSls, retOk, retOks, tryAsS, tryOnlyS, lookB, kinE, xfE, lookF, frzE, isTR, isTB, allC, blsD, gU, raiseIS, at0, at1, at2, at3, lrE, sortC, intC, intsD, slE, intO, cutD, borS, borT, bkR, okRho, eqXR, slX, addT, repT, tryMixS, mixH, suK, suR, suL, F__law_box, F__law_within]
      refine ⟨⟨hs, by omega⟩, fun bs L n' ok sx => ?_⟩
      refine ⟨true, bs, L, rfl, ⟨ok, sx⟩, ?_⟩
      have hl12 := ok.le
      obtain ⟨c1, c2, c3⟩ := rd_cmp (rdW (tabW bs L) (L + L))
      have rr : retOk (rdD (rdW (tabW bs L) (L + L))) = true := by cases rdW (tabW bs L) (L + L) <;> rfl
      simp [cE, vE, bE, rE, fE, mE, bin, nilA, consA, bT, andT, orT, notT, tupE, lstE, allV, allM, okB, intR, addR, asL, asT, asD, eqR, eqD_nn, eqD_bb, eqD_ii, eqD_ss, eqD_tt, eqD_ll, eqD_bi, eqD_ib, eqD_nt, eqD_tn, eqD_it, eqD_ti, eqD_ni, eqD_in, eqDs_nn, eqDs_cc, eqDs_nc, eqDs_cn, cmpD, cmpDs, depD, depDs, isNon, isNR, chainE, tvE, andV, orV, notV, ifE, slEV, ixR, callV, lenC, isiC, tyN, pick, retEV, callP, argD, argDs, seqS, bkS, ctS, exprS, retS, retNS, ifS, evSl, setS, SK.loop, gN, gNil, gCons, gT, asgS, parS, defF, defK, raiseS, absC, divmodC, mmC, stL, itL, itT, itR1, itR2, itE, shL, itZ, itV, forS, evD, methL, appL, clrL, popL, insL, trL, extL, setixS, argS, argSs, callI, callN, hereA, nextA, negE, itS, wipeR, compE, compD, yesT, seqD, listC, tupC, numd, zipd, nxS, frSl, retSl, retSls, retOk, retOks, tryAsS, tryOnlyS, lookB, kinE, xfE, lookF, frzE, isTR, isTB, allC, blsD, gU, raiseIS, at0, at1, at2, at3, lrE, sortC, intC, intsD, slE, intO, cutD, borS, borT, bkR, okRho, eqXR, slX, addT, repT, tryMixS, mixH, suK, suR, suL]
      refine round_f ok ?_
      have rf := @round_f
      generalize hX : rdD (rdW (tabW bs L) (L + L)) = X at *
      simp [cE, vE, bE, rE, fE, mE, bin, nilA, consA, bT, andT, orT, notT, tupE, lstE, allV, allM, okB, intR, addR, asL, asT, asD, eqR, eqD_nn, eqD_bb, eqD_ii, eqD_ss, eqD_tt, eqD_ll, eqD_bi, eqD_ib, eqD_nt, eqD_tn, eqD_it, eqD_ti, eqD_ni, eqD_in, eqDs_nn, eqDs_cc, eqDs_nc, eqDs_cn, cmpD, cmpDs, depD, depDs, isNon, isNR, chainE, tvE, andV, orV, notV, ifE, slEV, ixR, callV, lenC, isiC, tyN, pick, retEV, callP, argD, argDs, seqS, bkS, ctS, exprS, retS, retNS, ifS, evSl, setS, SK.loop, gN, gNil, gCons, gT, asgS, parS, defF, defK, raiseS, absC, divmodC, mmC, stL, itL, itT, itR1, itR2, itE, shL, itZ, itV, forS, evD, methL, appL, clrL, popL, insL, trL, extL, setixS, argS, argSs, callI, callN, hereA, nextA, negE, itS, wipeR, compE, compD, yesT, seqD, listC, tupC, numd, zipd, nxS, frSl, retSl, retSls, retOk, retOks, tryAsS, tryOnlyS, lookB, kinE, xfE, lookF, frzE, isTR, isTB, allC, blsD, gU, raiseIS, at0, at1, at2, at3, lrE, sortC, intC, intsD, slE, intO, cutD, borS, borT, bkR, okRho, eqXR, slX, addT, repT, tryMixS, mixH, suK, suR, suL, c1, c2]
      refine ⟨by omega, by omega, ?_⟩
      refine comp_mem wD (fun b => wD (stW b)) bs [] _ (fun b hb acc ds K k => ?_) ?_
      · have e0 : frD (0 : Rat) = .tup [.int 0, .int 1] := rfl
        simp only [wD, stW, e0] at k
        simp [cE, vE, bE, rE, fE, mE, bin, nilA, consA, bT, andT, orT, notT, tupE, lstE, allV, allM, okB, intR, addR, asL, asT, asD, eqR, eqD_nn, eqD_bb, eqD_ii, eqD_ss, eqD_tt, eqD_ll, eqD_bi, eqD_ib, eqD_nt, eqD_tn, eqD_it, eqD_ti, eqD_ni, eqD_in, eqDs_nn, eqDs_cc, eqDs_nc, eqDs_cn, cmpD, cmpDs, depD, depDs, isNon, isNR, chainE, tvE, andV, orV, notV, ifE, slEV, ixR, callV, lenC, isiC, tyN, pick, retEV, callP, argD, argDs, seqS, bkS, ctS, exprS, retS, retNS, ifS, evSl, setS, SK.loop, gN, gNil, gCons, gT, asgS, parS, defF, defK, raiseS, absC, divmodC, mmC, stL, itL, itT, itR1, itR2, itE, shL, itZ, itV, forS, evD, methL, appL, clrL, popL, insL, trL, extL, setixS, argS, argSs, callI, callN, hereA, nextA, negE, itS, wipeR, compE, compD, yesT, seqD, listC, tupC, numd, zipd, nxS, frSl, retSl, retSls, retOk, retOks, tryAsS, tryOnlyS, lookB, kinE, xfE, lookF, frzE, isTR, isTB, allC, blsD, gU, raiseIS, at0, at1, at2, at3, lrE, sortC, intC, intsD, slE, intO, cutD, borS, borT, bkR, okRho, eqXR, slX, addT, repT, tryMixS, mixH, suK, suR, suL, wD]
        exact k
      · have e : bs.map (fun b => wD (stW b)) = (bs.map stW).map wD := by rw [List.map_map]; rfl
        rw [List.nil_append, e]
        refine round_f (st_ok ok) ?_
        rw [st_none]
        simp [rdD]
        refine round_f ok ?_
        rw [hX]
        simp [cE, vE, bE, rE, fE, mE, bin, nilA, consA, bT, andT, orT, notT, tupE, lstE, allV, allM, okB, intR, addR, asL, asT, asD, eqR, eqD_nn, eqD_bb, eqD_ii, eqD_ss, eqD_tt, eqD_ll, eqD_bi, eqD_ib, eqD_nt, eqD_tn, eqD_it, eqD_ti, eqD_ni, eqD_in, eqDs_nn, eqDs_cc, eqDs_nc, eqDs_cn, cmpD, cmpDs, depD, depDs, isNon, isNR, chainE, tvE, andV, orV, notV, ifE, slEV, ixR, callV, lenC, isiC, tyN, pick, retEV, callP, argD, argDs, seqS, bkS, ctS, exprS, retS, retNS, ifS, evSl, setS, SK.loop, gN, gNil, gCons, gT, asgS, parS, defF, defK, raiseS, absC, divmodC, mmC, stL, itL, itT, itR1, itR2, itE, shL, itZ, itV, forS, evD, methL, appL, clrL, popL, insL, trL, extL, setixS, argS, argSs, callI, callN, hereA, nextA, negE, itS, wipeR, compE, compD, yesT, seqD, listC, tupC, numd, zipd, nxS, frSl, retSl, retSls, retOk, retOks, tryAsS, tryOnlyS, lookB, kinE, xfE, lookF, frzE, isTR, isTB, allC, blsD, gU, raiseIS, at0, at1, at2, at3, lrE, sortC, intC, intsD, slE, intO, cutD, borS, borT, bkR, okRho, eqXR, slX, addT, repT, tryMixS, mixH, suK, suR, suL, c1, c2]
        exact ⟨by omega, next _ ⟨_, _, _, _, _, _, _, rfl⟩⟩
    · rintro ρ ⟨x1, x2, x3, x4, x5, x6, x7, rfl⟩
      simp [cE, vE, bE, rE, fE, mE, bin, nilA, consA, bT, andT, orT, notT, tupE, lstE, allV, allM, okB, intR, addR, asL, asT, asD, eqR, eqD_nn, eqD_bb, eqD_ii, eqD_ss, eqD_tt, eqD_ll, eqD_bi, eqD_ib, eqD_nt, eqD_tn, eqD_it, eqD_ti, eqD_ni, eqD_in, eqDs_nn, eqDs_cc, eqDs_nc, eqDs_cn, cmpD, cmpDs, depD, depDs, isNon, isNR, chainE, tvE, andV, orV, notV, ifE, slEV, ixR, callV, lenC, isiC, tyN, pick, retEV, callP, argD, argDs, seqS, bkS, ctS, exprS, retS, retNS, ifS, evSl, setS, SK.loop, gN, gNil, gCons, gT, asgS, parS, defF, defK, raiseS, absC, divmodC, mmC, stL, itL, itT, itR1, itR2, itE, shL, itZ, itV, forS, evD, methL, appL, clrL, popL, insL, trL, extL, setixS, argS, argSs, callI, callN, hereA, nextA, negE, itS, wipeR, compE, compD, yesT, seqD, listC, tupC, numd, zipd, nxS, frSl, retSl, retSls, retOk, retOks, tryAsS, tryOnlyS, lookB, kinE, xfE, lookF, frzE, isTR, isTB, allC, blsD, gU, raiseIS, at0, at1, at2, at3, lrE, sortC, intC, intsD, slE, intO, cutD, borS, borT, bkR, okRho, eqXR, slX, addT, repT, tryMixS, mixH, suK, suR, suL]
      exact h
  · exact h.elim
end VS
set_option Elab.async false
set_option linter.all false
set_option maxRecDepth 100000
set_option maxHeartbeats 4000000
namespace VS
open PySem PySem.Spec PyProof.Rows
open L2 (V Hp Cx WX)
def topS (i : Nat) : Stmt := PySem.Challenge.pw_knockwright_k57_the_round.main.body.getD i (.Pass ⟨0, 0, 0, 0⟩)
theorem sc__law_cell : L2.FnScope ["_law_script", "_law_k"] ["_law_script", "_law_k"] (L2.defScope (topS 29)) := ⟨rfl, rfl, rfl, by decide +kernel, rfl, by decide +kernel, by decide +kernel⟩
theorem ok__law_cell {P : Program} {w : World} {K : PySem.W.Frag} {mg : Str → Option Value} {base : Heap} (a__law_cell : At K mg "_law_cell" "_law_cell" (topS 29) ["_law_script", "_law_k"]) (z_len : mg "len" = none) :
  DefR P w K mg base 33 "_law_cell" ["_law_script", "_law_k"] [false, false] (defF [false, false] 2 sf__law_cell) :=
  DefR.mk' (k := 32) a__law_cell sc__law_cell rfl (by decide) (fun f cdv A outer s H E Z H0 io zd zi s0 hr =>
    ((sjs_cons (sj_if (tj_lt (ej_v (L2.pv 1)) (ej_callB L2.call_len lenC_mono (lenC_says rfl) (by rfl) z_len (by decide +kernel) (aj_cons (ej_v (L2.pv 0)) aj_nil))) (sjs_one (sj_ret (ej_ix rfl (fun _ _ => rfl) (ej_v (L2.pv 0)) (ej_v (L2.pv 1))))) sjs_nil)
    (sjs_one (sj_ret (ej_add rfl (ej_mul ej_int (ej_v (L2.pv 1))) ej_int)))))
    )
theorem sc__law_mix : L2.FnScope ["_law_cell_here", "_law_k", "_law_number"] ["_law_cell_here", "_law_k"] (L2.defScope (topS 30)) := ⟨rfl, rfl, rfl, by decide +kernel, rfl, by decide +kernel, by decide +kernel⟩
theorem ok__law_mix {P : Program} {w : World} {K : PySem.W.Frag} {mg : Str → Option Value} {base : Heap} (a__law_mix : At K mg "_law_mix" "_law_mix" (topS 30) ["_law_cell_here", "_law_k"]) :
  DefR P w K mg base 33 "_law_mix" ["_law_cell_here", "_law_k"] [false, false] (defF [false, false] 3 sf__law_mix) :=
  DefR.mk' (k := 32) a__law_mix sc__law_mix rfl (by decide) (fun f cdv A outer s H E Z H0 io zd zi s0 hr =>
    ((sjs_cons (sj_set (i := 2) (fz := true) (ej_add rfl (ej_mul (ej_add rfl (ej_v (L2.pv 0)) ej_int) ej_int) (ej_mul ej_int (ej_v (L2.pv 1)))) (nm rfl) sc__law_mix.nd rfl (.inl rfl))
    (sjs_cons (sj_set (i := 2) (fz := true) (ej_add rfl (ej_mod (ej_mul (ej_v (L2.pv 2)) (ej_v (L2.pv 2))) ej_int) (ej_v (L2.pv 1))) (nm rfl) sc__law_mix.nd rfl (.inl rfl))
    (sjs_one (sj_ret (ej_mod (ej_mul (ej_v (L2.pv 2)) (ej_add rfl (ej_v (L2.pv 2)) ej_int)) ej_int))))))
    )
theorem sc__law_box : L2.FnScope ["_law_script", "_law_k", "_law_here", "_law_number", "_law_j"] ["_law_script", "_law_k"] (L2.defScope (topS 31)) := ⟨rfl, rfl, rfl, by decide +kernel, rfl, by decide +kernel, by decide +kernel⟩
theorem ok__law_box {P : Program} {w : World} {K : PySem.W.Frag} {mg : Str → Option Value} {base : Heap} (a__law_box : At K mg "_law_box" "_law_box" (topS 31) ["_law_script", "_law_k"]) (d__law_cell : Def P w K mg base 33 "_law_cell" ["_law_script", "_law_k"] [false, false] F__law_cell) (y_K : PyK P K mg) (d__law_mix : Def P w K mg base 33 "_law_mix" ["_law_cell_here", "_law_k"] [false, false] F__law_mix) (z_range : mg "range" = none) :
  DefR P w K mg base 34 "_law_box" ["_law_script", "_law_k"] [false, false] (defF [false, false] 5 sf__law_box) :=
  DefR.mk' (k := 33) a__law_box sc__law_box rfl (by decide) (fun f cdv A outer s H E Z H0 io zd zi s0 hr =>
    ((sjs_cons (sj_set (i := 2) (fz := true) (ej_call d__law_cell (by decide) rfl rfl hr (by decide) (by rfl) (L2.takes_of rfl rfl rfl rfl) (aj_cons (ej_v (L2.pv 0)) (aj_cons (ej_v (L2.pv 1)) aj_nil))) (nm rfl) sc__law_box.nd rfl (.inl rfl))
    (sjs_cons (sj_if (tj_eq rfl (u128 hr) (ej_mod (ej_v (L2.pv 2)) ej_int) ej_int) (sjs_one (sj_ret (ej_lst (aj_cons (ej_fdiv (pyD y_K sc__law_box (by decide) hr) (ej_v (L2.pv 2)) ej_int) aj_nil)))) sjs_nil)
    (sjs_cons (sj_set (i := 3) (fz := true) ej_int (nm rfl) sc__law_box.nd rfl (.inl rfl))
    (sjs_cons (sj_for (L2.passes_of rfl) rfl (ij_range1 (by rfl) z_range (aj_cons ej_int aj_nil)) (gj_name (nm rfl) sc__law_box.nd rfl (.inl rfl)) (sjs_one (sj_set (i := 3) (fz := true) (ej_add rfl (ej_mul (ej_v (L2.pv 3)) ej_int) (ej_call d__law_mix (by decide) rfl rfl hr (by decide) (by rfl) (L2.takes_of rfl rfl rfl rfl) (aj_cons (ej_v (L2.pv 2)) (aj_cons (ej_v (L2.pv 4)) aj_nil)))) (nm rfl) sc__law_box.nd rfl (.inl rfl))))
    (sjs_one (sj_ret (ej_lst (aj_cons (ej_v (L2.pv 3)) aj_nil)))))))))
    )
theorem sc__law_fit : L2.FnScope ["_law_top", "_law_bottom", "_law_one", "_law_other"] ["_law_top", "_law_bottom"] (L2.defScope (topS 33)) := ⟨rfl, rfl, rfl, by decide +kernel, rfl, by decide +kernel, by decide +kernel⟩
theorem ok__law_fit {P : Program} {w : World} {K : PySem.W.Frag} {mg : Str → Option Value} {base : Heap} (a__law_fit : At K mg "_law_fit" "_law_fit" (topS 33) ["_law_top", "_law_bottom"]) (y_K : PyK P K mg) (z_abs : mg "abs" = none) :
  DefR P w K mg base 33 "_law_fit" ["_law_top", "_law_bottom"] [false, false] (defF [false, false] 4 sf__law_fit) :=
  DefR.mk' (k := 32) a__law_fit sc__law_fit rfl (by decide) (fun f cdv A outer s H E Z H0 io zd zi s0 hr =>
    ((sjs_cons (sj_par (i := 2) (j := 3) (nm rfl) (nm rfl) rfl sc__law_fit.nd rfl rfl (by decide) rfl rfl (aj_cons (ej_callB L2.call_abs absC_mono absC_says (by rfl) z_abs (by decide +kernel) (aj_cons (ej_v (L2.pv 0)) aj_nil)) (aj_cons (ej_callB L2.call_abs absC_mono absC_says (by rfl) z_abs (by decide +kernel) (aj_cons (ej_v (L2.pv 1)) aj_nil)) aj_nil)) rfl)
    (sjs_cons (sj_while (L2.passes_of rfl) (tj_gt (ej_v (L2.pv 3)) ej_int) (sjs_one (sj_par (i := 2) (j := 3) (nm rfl) (nm rfl) rfl sc__law_fit.nd rfl rfl (by decide) rfl rfl (aj_cons (ej_v (L2.pv 3)) (aj_cons (ej_mod (ej_v (L2.pv 2)) (ej_v (L2.pv 3))) aj_nil)) rfl)))
    (sjs_cons (sj_if (tj_lt (ej_v (L2.pv 1)) ej_int) (sjs_one (sj_set (i := 2) (fz := true) (ej_sub ej_int (ej_v (L2.pv 2))) (nm rfl) sc__law_fit.nd rfl (.inl rfl))) sjs_nil)
    (sjs_one (sj_ret (ej_tup (aj_cons (ej_fdiv (pyD y_K sc__law_fit (by decide) hr) (ej_v (L2.pv 0)) (ej_v (L2.pv 2))) (aj_cons (ej_fdiv (pyD y_K sc__law_fit (by decide) hr) (ej_v (L2.pv 1)) (ej_v (L2.pv 2))) aj_nil)) rfl)))))))
    )
theorem sc__law_take : L2.FnScope ["_law_box_here", "_law_many", "_law_left", "_law_digit"] ["_law_box_here", "_law_many"] (L2.defScope (topS 32)) := ⟨rfl, rfl, rfl, by decide +kernel, rfl, by decide +kernel, by decide +kernel⟩
theorem ok__law_take {P : Program} {w : World} {K : PySem.W.Frag} {mg : Str → Option Value} {base : Heap} (a__law_take : At K mg "_law_take" "_law_take" (topS 32) ["_law_box_here", "_law_many"]) (y_K : PyK P K mg) (z_divmod : mg "divmod" = none) :
  DefR P w K mg base 33 "_law_take" ["_law_box_here", "_law_many"] [true, false] (defF [true, false] 4 sf__law_take) :=
  DefR.mk' (k := 32) a__law_take sc__law_take rfl (by decide) (fun f cdv A outer s H E Z H0 io zd zi s0 hr =>
    ((sjs_cons (sj_asg (ej_callB (call_divmodV (pyD y_K sc__law_take (by decide) hr)) divmodC_mono divmodC_says (by rfl) z_divmod (by decide +kernel) (aj_cons (ej_ix rfl (fun _ _ => rfl) (ej_r (L2.pv 0)) ej_int) (aj_cons (ej_v (L2.pv 1)) aj_nil))) (gj_tup rfl rfl (gjs_cons (gj_name (nm rfl) sc__law_take.nd rfl (.inl rfl)) (gjs_cons (gj_name (nm rfl) sc__law_take.nd rfl (.inl rfl)) gjs_nil))))
    (sjs_cons (sj_setix (i := 0) (L2.pv 0) (ej_v (L2.pv 2)) ej_int)
    (sjs_one (sj_ret (ej_v (L2.pv 3)))))))
    )
theorem sc__law_small : L2.FnScope ["_law_box_here"] ["_law_box_here"] (L2.defScope (topS 39)) := ⟨rfl, rfl, rfl, by decide +kernel, rfl, by decide +kernel, by decide +kernel⟩
theorem ok__law_small {P : Program} {w : World} {K : PySem.W.Frag} {mg : Str → Option Value} {base : Heap} (a__law_small : At K mg "_law_small" "_law_small" (topS 39) ["_law_box_here"]) (d__law_fit : Def P w K mg base 33 "_law_fit" ["_law_top", "_law_bottom"] [false, false] F__law_fit) (d__law_take : Def P w K mg base 33 "_law_take" ["_law_box_here", "_law_many"] [true, false] F__law_take) :
  DefR P w K mg base 34 "_law_small" ["_law_box_here"] [true] (defF [true] 1 sf__law_smallX) :=
  DefR.mk' (k := 33) a__law_small sc__law_small rfl (by decide) (fun f cdv A outer s H E Z H0 io zd zi s0 hr =>
    ((sjs_one (sj_ret (ej_call d__law_fit (by decide) rfl rfl hr (by decide) (by rfl) (L2.takes_of rfl rfl rfl rfl) (aj_cons (ej_sub (ej_callI (i := 0) (kk := 0) (mm := 1) d__law_take rfl rfl rfl hr (by decide) (by rfl) (L2.takes_of rfl rfl rfl rfl) (aji_here (L2.pv 0) (aj_cons ej_int aj_nil))) ej_int) (aj_cons (ej_ix rfl (fun _ _ => rfl) (ej_lst (aj_cons ej_int (aj_cons ej_int (aj_cons ej_int (aj_cons ej_int aj_nil))))) (ej_callI (i := 0) (kk := 0) (mm := 1) d__law_take rfl rfl rfl hr (by decide) (by rfl) (L2.takes_of rfl rfl rfl rfl) (aji_here (L2.pv 0) (aj_cons ej_int aj_nil)))) aj_nil))))))
    )
theorem sc__law_plus : L2.FnScope ["_law_one", "_law_other"] ["_law_one", "_law_other"] (L2.defScope (topS 34)) := ⟨rfl, rfl, rfl, by decide +kernel, rfl, by decide +kernel, by decide +kernel⟩
theorem ok__law_plus {P : Program} {w : World} {K : PySem.W.Frag} {mg : Str → Option Value} {base : Heap} (a__law_plus : At K mg "_law_plus" "_law_plus" (topS 34) ["_law_one", "_law_other"]) (d__law_fit : Def P w K mg base 33 "_law_fit" ["_law_top", "_law_bottom"] [false, false] F__law_fit) :
  DefR P w K mg base 34 "_law_plus" ["_law_one", "_law_other"] [false, false] (defF [false, false] 2 sf__law_plus) :=
  DefR.mk' (k := 33) a__law_plus sc__law_plus rfl (by decide) (fun f cdv A outer s H E Z H0 io zd zi s0 hr =>
    ((sjs_one (sj_ret (ej_call d__law_fit (by decide) rfl rfl hr (by decide) (by rfl) (L2.takes_of rfl rfl rfl rfl) (aj_cons (ej_add rfl (ej_mul (ej_ix rfl (fun _ _ => rfl) (ej_v (L2.pv 0)) ej_int) (ej_ix rfl (fun _ _ => rfl) (ej_v (L2.pv 1)) ej_int)) (ej_mul (ej_ix rfl (fun _ _ => rfl) (ej_v (L2.pv 1)) ej_int) (ej_ix rfl (fun _ _ => rfl) (ej_v (L2.pv 0)) ej_int))) (aj_cons (ej_mul (ej_ix rfl (fun _ _ => rfl) (ej_v (L2.pv 0)) ej_int) (ej_ix rfl (fun _ _ => rfl) (ej_v (L2.pv 1)) ej_int)) aj_nil))))))
    )
theorem sc__law_minus : L2.FnScope ["_law_one", "_law_other"] ["_law_one", "_law_other"] (L2.defScope (topS 35)) := ⟨rfl, rfl, rfl, by decide +kernel, rfl, by decide +kernel, by decide +kernel⟩
theorem ok__law_minus {P : Program} {w : World} {K : PySem.W.Frag} {mg : Str → Option Value} {base : Heap} (a__law_minus : At K mg "_law_minus" "_law_minus" (topS 35) ["_law_one", "_law_other"]) (d__law_fit : Def P w K mg base 33 "_law_fit" ["_law_top", "_law_bottom"] [false, false] F__law_fit) :
  DefR P w K mg base 34 "_law_minus" ["_law_one", "_law_other"] [false, false] (defF [false, false] 2 sf__law_minus) :=
  DefR.mk' (k := 33) a__law_minus sc__law_minus rfl (by decide) (fun f cdv A outer s H E Z H0 io zd zi s0 hr =>
    ((sjs_one (sj_ret (ej_call d__law_fit (by decide) rfl rfl hr (by decide) (by rfl) (L2.takes_of rfl rfl rfl rfl) (aj_cons (ej_sub (ej_mul (ej_ix rfl (fun _ _ => rfl) (ej_v (L2.pv 0)) ej_int) (ej_ix rfl (fun _ _ => rfl) (ej_v (L2.pv 1)) ej_int)) (ej_mul (ej_ix rfl (fun _ _ => rfl) (ej_v (L2.pv 1)) ej_int) (ej_ix rfl (fun _ _ => rfl) (ej_v (L2.pv 0)) ej_int))) (aj_cons (ej_mul (ej_ix rfl (fun _ _ => rfl) (ej_v (L2.pv 0)) ej_int) (ej_ix rfl (fun _ _ => rfl) (ej_v (L2.pv 1)) ej_int)) aj_nil))))))
    )
theorem sc__law_times : L2.FnScope ["_law_one", "_law_other"] ["_law_one", "_law_other"] (L2.defScope (topS 36)) := ⟨rfl, rfl, rfl, by decide +kernel, rfl, by decide +kernel, by decide +kernel⟩
theorem ok__law_times {P : Program} {w : World} {K : PySem.W.Frag} {mg : Str → Option Value} {base : Heap} (a__law_times : At K mg "_law_times" "_law_times" (topS 36) ["_law_one", "_law_other"]) (d__law_fit : Def P w K mg base 33 "_law_fit" ["_law_top", "_law_bottom"] [false, false] F__law_fit) :
  DefR P w K mg base 34 "_law_times" ["_law_one", "_law_other"] [false, false] (defF [false, false] 2 sf__law_times) :=
  DefR.mk' (k := 33) a__law_times sc__law_times rfl (by decide) (fun f cdv A outer s H E Z H0 io zd zi s0 hr =>
    ((sjs_one (sj_ret (ej_call d__law_fit (by decide) rfl rfl hr (by decide) (by rfl) (L2.takes_of rfl rfl rfl rfl) (aj_cons (ej_mul (ej_ix rfl (fun _ _ => rfl) (ej_v (L2.pv 0)) ej_int) (ej_ix rfl (fun _ _ => rfl) (ej_v (L2.pv 1)) ej_int)) (aj_cons (ej_mul (ej_ix rfl (fun _ _ => rfl) (ej_v (L2.pv 0)) ej_int) (ej_ix rfl (fun _ _ => rfl) (ej_v (L2.pv 1)) ej_int)) aj_nil))))))
    )
theorem sc__law_within : L2.FnScope ["_law_box_here", "_law_weight", "_law_many", "_law_even", "_law_step", "_law_few", "_law_place", "_law_found", "_law_k", "_law_speed"] ["_law_box_here"] (L2.defScope (topS 40)) := ⟨rfl, rfl, rfl, by decide +kernel, rfl, by decide +kernel, by decide +kernel⟩
theorem ok__law_within {P : Program} {w : World} {K : PySem.W.Frag} {mg : Str → Option Value} {base : Heap} (a__law_within : At K mg "_law_within" "_law_within" (topS 40) ["_law_box_here"]) (d__law_take : Def P w K mg base 33 "_law_take" ["_law_box_here", "_law_many"] [true, false] F__law_take) (d__law_fit : Def P w K mg base 33 "_law_fit" ["_law_top", "_law_bottom"] [false, false] F__law_fit) (d__law_small : Def P w K mg base 34 "_law_small" ["_law_box_here"] [true] F__law_smallX) (d__law_plus : Def P w K mg base 34 "_law_plus" ["_law_one", "_law_other"] [false, false] F__law_plus) (d__law_minus : Def P w K mg base 34 "_law_minus" ["_law_one", "_law_other"] [false, false] F__law_minus) (d__law_times : Def P w K mg base 34 "_law_times" ["_law_one", "_law_other"] [false, false] F__law_times) (z_range : mg "range" = none) :
  DefR P w K mg base 35 "_law_within" ["_law_box_here"] [true] (defF [true] 10 sf__law_within) :=
  DefR.mk' (k := 34) a__law_within sc__law_within rfl (by decide) (fun f cdv A outer s H E Z H0 io zd zi s0 hr =>
    ((sjs_cons (sj_set (i := 1) (fz := true) (ej_add rfl ej_int (ej_callI (i := 0) (kk := 0) (mm := 1) d__law_take rfl rfl rfl hr (by decide) (by rfl) (L2.takes_of rfl rfl rfl rfl) (aji_here (L2.pv 0) (aj_cons (ej_ix rfl (fun _ _ => rfl) (ej_lst (aj_cons ej_int (aj_cons ej_int aj_nil))) (ej_callI (i := 0) (kk := 0) (mm := 1) d__law_take rfl rfl rfl hr (by decide) (by rfl) (L2.takes_of rfl rfl rfl rfl) (aji_here (L2.pv 0) (aj_cons ej_int aj_nil)))) aj_nil)))) (nm rfl) sc__law_within.nd rfl (.inl rfl))
    (sjs_cons (sj_set (i := 2) (fz := true) (ej_add rfl ej_int (ej_callI (i := 0) (kk := 0) (mm := 1) d__law_take rfl rfl rfl hr (by decide) (by rfl) (L2.takes_of rfl rfl rfl rfl) (aji_here (L2.pv 0) (aj_cons (ej_ix rfl (fun _ _ => rfl) (ej_lst (aj_cons ej_int (aj_cons ej_int (aj_cons ej_int aj_nil)))) (ej_callI (i := 0) (kk := 0) (mm := 1) d__law_take rfl rfl rfl hr (by decide) (by rfl) (L2.takes_of rfl rfl rfl rfl) (aji_here (L2.pv 0) (aj_cons ej_int aj_nil)))) aj_nil)))) (nm rfl) sc__law_within.nd rfl (.inl rfl))
    (sjs_cons (sj_set (i := 3) (fz := true) (ej_eq rfl (u128 hr) (ej_callI (i := 0) (kk := 0) (mm := 1) d__law_take rfl rfl rfl hr (by decide) (by rfl) (L2.takes_of rfl rfl rfl rfl) (aji_here (L2.pv 0) (aj_cons ej_int aj_nil))) ej_int) (nm rfl) sc__law_within.nd rfl (.inl rfl))
    (sjs_cons (sj_set (i := 4) (fz := true) (ej_call d__law_fit (by decide) rfl rfl hr (by decide) (by rfl) (L2.takes_of rfl rfl rfl rfl) (aj_cons (ej_add rfl ej_int (ej_callI (i := 0) (kk := 0) (mm := 1) d__law_take rfl rfl rfl hr (by decide) (by rfl) (L2.takes_of rfl rfl rfl rfl) (aji_here (L2.pv 0) (aj_cons ej_int aj_nil)))) (aj_cons (ej_add rfl ej_int (ej_callI (i := 0) (kk := 0) (mm := 1) d__law_take rfl rfl rfl hr (by decide) (by rfl) (L2.takes_of rfl rfl rfl rfl) (aji_here (L2.pv 0) (aj_cons ej_int aj_nil)))) aj_nil))) (nm rfl) sc__law_within.nd rfl (.inl rfl))
    (sjs_cons (sj_set (i := 5) (fz := true) (ej_lst (aj_cons (ej_callI (i := 0) (kk := 0) (mm := 0) d__law_small rfl rfl rfl hr (by decide) (by rfl) (L2.takes_of rfl rfl rfl rfl) (aji_here (L2.pv 0) aj_nil)) (aj_cons (ej_callI (i := 0) (kk := 0) (mm := 0) d__law_small rfl rfl rfl hr (by decide) (by rfl) (L2.takes_of rfl rfl rfl rfl) (aji_here (L2.pv 0) aj_nil)) aj_nil))) (nm rfl) sc__law_within.nd rfl (.inl rfl))
    (sjs_cons (sj_set (i := 6) (fz := true) (ej_v (L2.pv 4)) (nm rfl) sc__law_within.nd rfl (.inl rfl))
    (sjs_cons (sj_set (i := 7) (fz := false) (ej_lst aj_nil) (nm rfl) sc__law_within.nd rfl (.inl rfl))
    (sjs_cons (sj_for (L2.passes_of rfl) rfl (ij_range1 (by rfl) z_range (aj_cons (ej_v (L2.pv 2)) aj_nil)) (gj_name (nm rfl) sc__law_within.nd rfl (.inl rfl)) (sjs_cons (sj_set (i := 9) (fz := true) (ej_ix rfl (fun _ _ => rfl) (ej_v (L2.pv 5)) (ej_callI (i := 0) (kk := 0) (mm := 1) d__law_take rfl rfl rfl hr (by decide) (by rfl) (L2.takes_of rfl rfl rfl rfl) (aji_here (L2.pv 0) (aj_cons ej_int aj_nil)))) (nm rfl) sc__law_within.nd rfl (.inl rfl))
    (sjs_cons (sj_if (tj_not (tj_val (ej_v (L2.pv 3)))) (sjs_cons (sj_set (i := 9) (fz := true) (ej_callI (i := 0) (kk := 0) (mm := 0) d__law_small rfl rfl rfl hr (by decide) (by rfl) (L2.takes_of rfl rfl rfl rfl) (aji_here (L2.pv 0) aj_nil)) (nm rfl) sc__law_within.nd rfl (.inl rfl))
    (sjs_one (sj_set (i := 4) (fz := true) (ej_call d__law_fit (by decide) rfl rfl hr (by decide) (by rfl) (L2.takes_of rfl rfl rfl rfl) (aj_cons (ej_add rfl ej_int (ej_callI (i := 0) (kk := 0) (mm := 1) d__law_take rfl rfl rfl hr (by decide) (by rfl) (L2.takes_of rfl rfl rfl rfl) (aji_here (L2.pv 0) (aj_cons ej_int aj_nil)))) (aj_cons (ej_add rfl ej_int (ej_callI (i := 0) (kk := 0) (mm := 1) d__law_take rfl rfl rfl hr (by decide) (by rfl) (L2.takes_of rfl rfl rfl rfl) (aji_here (L2.pv 0) (aj_cons ej_int aj_nil)))) aj_nil))) (nm rfl) sc__law_within.nd rfl (.inl rfl)))) sjs_nil)
    (sjs_cons (sj_expr (ej_append rfl (L2.pv 7) (aj_cons (ej_tup (aj_cons (ej_v (L2.pv 6)) (aj_cons (ej_v (L2.pv 9)) (aj_cons (ej_v (L2.pv 1)) aj_nil))) rfl) aj_nil)))
    (sjs_one (sj_set (i := 6) (fz := true) (ej_call d__law_plus (by decide) rfl rfl hr (by decide) (by rfl) (L2.takes_of rfl rfl rfl rfl) (aj_cons (ej_v (L2.pv 6)) (aj_cons (ej_v (L2.pv 4)) aj_nil))) (nm rfl) sc__law_within.nd rfl (.inl rfl)))))))
    (sjs_cons (sj_if ((wj_and (tj_val (ej_v (L2.pv 3))) (wj_and1 (tj_eq rfl (u128 hr) (ej_callI (i := 0) (kk := 0) (mm := 1) d__law_take rfl rfl rfl hr (by decide) (by rfl) (L2.takes_of rfl rfl rfl rfl) (aji_here (L2.pv 0) (aj_cons ej_int aj_nil))) ej_int)))).tj (sjs_one (sj_set (i := 6) (fz := true) (ej_call d__law_minus (by decide) rfl rfl hr (by decide) (by rfl) (L2.takes_of rfl rfl rfl rfl) (aj_cons (ej_v (L2.pv 6)) (aj_cons (ej_call d__law_times (by decide) rfl rfl hr (by decide) (by rfl) (L2.takes_of rfl rfl rfl rfl) (aj_cons (ej_v (L2.pv 4)) (aj_cons (ej_tup (aj_cons ej_int (aj_cons ej_int aj_nil)) rfl) aj_nil))) aj_nil))) (nm rfl) sc__law_within.nd rfl (.inl rfl))) sjs_nil)
    (sjs_one (sj_ret (ej_tup (aj_cons (ej_m (L2.pv 7)) (aj_cons (ej_v (L2.pv 6)) aj_nil)) rfl)))))))))))))
    )
theorem sc__law_over : L2.FnScope ["_law_one", "_law_other"] ["_law_one", "_law_other"] (L2.defScope (topS 37)) := ⟨rfl, rfl, rfl, by decide +kernel, rfl, by decide +kernel, by decide +kernel⟩
theorem ok__law_over {P : Program} {w : World} {K : PySem.W.Frag} {mg : Str → Option Value} {base : Heap} (a__law_over : At K mg "_law_over" "_law_over" (topS 37) ["_law_one", "_law_other"]) (d__law_fit : Def P w K mg base 33 "_law_fit" ["_law_top", "_law_bottom"] [false, false] F__law_fit) :
  DefR P w K mg base 34 "_law_over" ["_law_one", "_law_other"] [false, false] (defF [false, false] 2 sf__law_over) :=
  DefR.mk' (k := 33) a__law_over sc__law_over rfl (by decide) (fun f cdv A outer s H E Z H0 io zd zi s0 hr =>
    ((sjs_one (sj_ret (ej_call d__law_fit (by decide) rfl rfl hr (by decide) (by rfl) (L2.takes_of rfl rfl rfl rfl) (aj_cons (ej_mul (ej_ix rfl (fun _ _ => rfl) (ej_v (L2.pv 0)) ej_int) (ej_ix rfl (fun _ _ => rfl) (ej_v (L2.pv 1)) ej_int)) (aj_cons (ej_mul (ej_ix rfl (fun _ _ => rfl) (ej_v (L2.pv 0)) ej_int) (ej_ix rfl (fun _ _ => rfl) (ej_v (L2.pv 1)) ej_int)) aj_nil))))))
    )
theorem sc__law_less : L2.FnScope ["_law_one", "_law_other"] ["_law_one", "_law_other"] (L2.defScope (topS 38)) := ⟨rfl, rfl, rfl, by decide +kernel, rfl, by decide +kernel, by decide +kernel⟩
theorem ok__law_less {P : Program} {w : World} {K : PySem.W.Frag} {mg : Str → Option Value} {base : Heap} (a__law_less : At K mg "_law_less" "_law_less" (topS 38) ["_law_one", "_law_other"]) :
  DefR P w K mg base 33 "_law_less" ["_law_one", "_law_other"] [false, false] (defF [false, false] 2 sf__law_less) :=
  DefR.mk' (k := 32) a__law_less sc__law_less rfl (by decide) (fun f cdv A outer s H E Z H0 io zd zi s0 hr =>
    ((sjs_one (sj_ret (ej_lt (ej_mul (ej_ix rfl (fun _ _ => rfl) (ej_v (L2.pv 0)) ej_int) (ej_ix rfl (fun _ _ => rfl) (ej_v (L2.pv 1)) ej_int)) (ej_mul (ej_ix rfl (fun _ _ => rfl) (ej_v (L2.pv 1)) ej_int) (ej_ix rfl (fun _ _ => rfl) (ej_v (L2.pv 0)) ej_int))))))
    )
theorem sc__law_folded : L2.FnScope ["_law_body", "_law_length", "_law_moment", "_law_place", "_law_speed"] ["_law_body", "_law_length", "_law_moment"] (L2.defScope (topS 41)) := ⟨rfl, rfl, rfl, by decide +kernel, rfl, by decide +kernel, by decide +kernel⟩
theorem ok__law_folded {P : Program} {w : World} {K : PySem.W.Frag} {mg : Str → Option Value} {base : Heap} (a__law_folded : At K mg "_law_folded" "_law_folded" (topS 41) ["_law_body", "_law_length", "_law_moment"]) (d__law_plus : Def P w K mg base 34 "_law_plus" ["_law_one", "_law_other"] [false, false] F__law_plus) (d__law_times : Def P w K mg base 34 "_law_times" ["_law_one", "_law_other"] [false, false] F__law_times) (d__law_less : Def P w K mg base 33 "_law_less" ["_law_one", "_law_other"] [false, false] F__law_less) (d__law_minus : Def P w K mg base 34 "_law_minus" ["_law_one", "_law_other"] [false, false] F__law_minus) (z_abs : mg "abs" = none) :
  DefR P w K mg base 35 "_law_folded" ["_law_body", "_law_length", "_law_moment"] [false, false, false] (defF [false, false, false] 5 sf__law_folded) :=
  DefR.mk' (k := 34) a__law_folded sc__law_folded rfl (by decide) (fun f cdv A outer s H E Z H0 io zd zi s0 hr =>
    ((sjs_cons (sj_set (i := 3) (fz := true) (ej_call d__law_plus (by decide) rfl rfl hr (by decide) (by rfl) (L2.takes_of rfl rfl rfl rfl) (aj_cons (ej_ix rfl (fun _ _ => rfl) (ej_v (L2.pv 0)) ej_int) (aj_cons (ej_call d__law_times (by decide) rfl rfl hr (by decide) (by rfl) (L2.takes_of rfl rfl rfl rfl) (aj_cons (ej_ix rfl (fun _ _ => rfl) (ej_v (L2.pv 0)) ej_int) (aj_cons (ej_v (L2.pv 2)) aj_nil))) aj_nil))) (nm rfl) sc__law_folded.nd rfl (.inl rfl))
    (sjs_cons (sj_set (i := 4) (fz := true) (ej_ix rfl (fun _ _ => rfl) (ej_v (L2.pv 0)) ej_int) (nm rfl) sc__law_folded.nd rfl (.inl rfl))
    (sjs_cons (sj_while (L2.passes_of rfl) ((wj_or (tj_val (ej_call d__law_less (by decide) rfl rfl hr (by decide) (by rfl) (L2.takes_of rfl rfl rfl rfl) (aj_cons (ej_v (L2.pv 3)) (aj_cons (ej_tup (aj_cons ej_int (aj_cons ej_int aj_nil)) rfl) aj_nil)))) (wj_or1 (tj_val (ej_call d__law_less (by decide) rfl rfl hr (by decide) (by rfl) (L2.takes_of rfl rfl rfl rfl) (aj_cons (ej_v (L2.pv 1)) (aj_cons (ej_v (L2.pv 3)) aj_nil))))))).tj (sjs_cons (sj_if (tj_val (ej_call d__law_less (by decide) rfl rfl hr (by decide) (by rfl) (L2.takes_of rfl rfl rfl rfl) (aj_cons (ej_v (L2.pv 3)) (aj_cons (ej_tup (aj_cons ej_int (aj_cons ej_int aj_nil)) rfl) aj_nil)))) (sjs_one (sj_set (i := 3) (fz := true) (ej_tup (aj_cons (ej_sub ej_int (ej_ix rfl (fun _ _ => rfl) (ej_v (L2.pv 3)) ej_int)) (aj_cons (ej_ix rfl (fun _ _ => rfl) (ej_v (L2.pv 3)) ej_int) aj_nil)) rfl) (nm rfl) sc__law_folded.nd rfl (.inl rfl))) (sjs_one (sj_set (i := 3) (fz := true) (ej_call d__law_minus (by decide) rfl rfl hr (by decide) (by rfl) (L2.takes_of rfl rfl rfl rfl) (aj_cons (ej_call d__law_plus (by decide) rfl rfl hr (by decide) (by rfl) (L2.takes_of rfl rfl rfl rfl) (aj_cons (ej_v (L2.pv 1)) (aj_cons (ej_v (L2.pv 1)) aj_nil))) (aj_cons (ej_v (L2.pv 3)) aj_nil))) (nm rfl) sc__law_folded.nd rfl (.inl rfl))))
    (sjs_one (sj_set (i := 4) (fz := true) (ej_tup (aj_cons (ej_sub ej_int (ej_ix rfl (fun _ _ => rfl) (ej_v (L2.pv 4)) ej_int)) (aj_cons (ej_ix rfl (fun _ _ => rfl) (ej_v (L2.pv 4)) ej_int) aj_nil)) rfl) (nm rfl) sc__law_folded.nd rfl (.inl rfl)))))
    (sjs_cons (sj_if (tj_eq rfl (u128 hr) (ej_v (L2.pv 3)) (ej_tup (aj_cons ej_int (aj_cons ej_int aj_nil)) rfl)) (sjs_one (sj_set (i := 4) (fz := true) (ej_tup (aj_cons (ej_callB L2.call_abs absC_mono absC_says (by rfl) z_abs (by decide +kernel) (aj_cons (ej_ix rfl (fun _ _ => rfl) (ej_v (L2.pv 4)) ej_int) aj_nil)) (aj_cons (ej_ix rfl (fun _ _ => rfl) (ej_v (L2.pv 4)) ej_int) aj_nil)) rfl) (nm rfl) sc__law_folded.nd rfl (.inl rfl))) sjs_nil)
    (sjs_cons (sj_if (tj_eq rfl (u128 hr) (ej_v (L2.pv 3)) (ej_v (L2.pv 1))) (sjs_one (sj_set (i := 4) (fz := true) (ej_tup (aj_cons (ej_sub ej_int (ej_callB L2.call_abs absC_mono absC_says (by rfl) z_abs (by decide +kernel) (aj_cons (ej_ix rfl (fun _ _ => rfl) (ej_v (L2.pv 4)) ej_int) aj_nil))) (aj_cons (ej_ix rfl (fun _ _ => rfl) (ej_v (L2.pv 4)) ej_int) aj_nil)) rfl) (nm rfl) sc__law_folded.nd rfl (.inl rfl))) sjs_nil)
    (sjs_one (sj_ret (ej_tup (aj_cons (ej_v (L2.pv 3)) (aj_cons (ej_v (L2.pv 4)) (aj_cons (ej_ix rfl (fun _ _ => rfl) (ej_v (L2.pv 0)) ej_int) aj_nil))) rfl)))))))))
    )
theorem sc__law_in_order : L2.FnScope ["_law_one", "_law_other"] ["_law_one", "_law_other"] (L2.defScope (topS 42)) := ⟨rfl, rfl, rfl, by decide +kernel, rfl, by decide +kernel, by decide +kernel⟩
theorem ok__law_in_order {P : Program} {w : World} {K : PySem.W.Frag} {mg : Str → Option Value} {base : Heap} (a__law_in_order : At K mg "_law_in_order" "_law_in_order" (topS 42) ["_law_one", "_law_other"]) (d__law_less : Def P w K mg base 33 "_law_less" ["_law_one", "_law_other"] [false, false] F__law_less) :
  DefR P w K mg base 34 "_law_in_order" ["_law_one", "_law_other"] [false, false] (defF [false, false] 2 sf__law_in_order) :=
  DefR.mk' (k := 33) a__law_in_order sc__law_in_order rfl (by decide) (fun f cdv A outer s H E Z H0 io zd zi s0 hr =>
    ((sjs_cons (sj_if (tj_eq rfl (u128 hr) (ej_ix rfl (fun _ _ => rfl) (ej_v (L2.pv 0)) ej_int) (ej_ix rfl (fun _ _ => rfl) (ej_v (L2.pv 1)) ej_int)) (sjs_one (sj_ret (ej_call d__law_less (by decide) rfl rfl hr (by decide) (by rfl) (L2.takes_of rfl rfl rfl rfl) (aj_cons (ej_ix rfl (fun _ _ => rfl) (ej_v (L2.pv 0)) ej_int) (aj_cons (ej_ix rfl (fun _ _ => rfl) (ej_v (L2.pv 1)) ej_int) aj_nil))))) sjs_nil)
    (sjs_one (sj_ret (ej_call d__law_less (by decide) rfl rfl hr (by decide) (by rfl) (L2.takes_of rfl rfl rfl rfl) (aj_cons (ej_ix rfl (fun _ _ => rfl) (ej_v (L2.pv 0)) ej_int) (aj_cons (ej_ix rfl (fun _ _ => rfl) (ej_v (L2.pv 1)) ej_int) aj_nil)))))))
    )
theorem sc__law_room : L2.FnScope ["_law_world_here", "_law_length", "_law_moment", "_law_found", "_law_body", "_law_there", "_law_at"] ["_law_world_here", "_law_length", "_law_moment"] (L2.defScope (topS 43)) := ⟨rfl, rfl, rfl, by decide +kernel, rfl, by decide +kernel, by decide +kernel⟩
theorem ok__law_room {P : Program} {w : World} {K : PySem.W.Frag} {mg : Str → Option Value} {base : Heap} (a__law_room : At K mg "_law_room" "_law_room" (topS 43) ["_law_world_here", "_law_length", "_law_moment"]) (d__law_folded : Def P w K mg base 35 "_law_folded" ["_law_body", "_law_length", "_law_moment"] [false, false, false] F__law_folded) (d__law_in_order : Def P w K mg base 34 "_law_in_order" ["_law_one", "_law_other"] [false, false] F__law_in_order) (z_len : mg "len" = none) :
  DefR P w K mg base 36 "_law_room" ["_law_world_here", "_law_length", "_law_moment"] [false, false, false] (defF [false, false, false] 7 sf__law_room) :=
  DefR.mk' (k := 35) a__law_room sc__law_room rfl (by decide) (fun f cdv A outer s H E Z H0 io zd zi s0 hr =>
    ((sjs_cons (sj_set (i := 3) (fz := false) (ej_lst aj_nil) (nm rfl) sc__law_room.nd rfl (.inl rfl))
    (sjs_cons (sj_for (L2.passes_of rfl) rfl (ij_seq rfl (ej_v (L2.pv 0))) (gj_name (nm rfl) sc__law_room.nd rfl (.inl rfl)) (sjs_cons (sj_set (i := 5) (fz := true) (ej_call d__law_folded (by decide) rfl rfl hr (by decide) (by rfl) (L2.takes_of rfl rfl rfl rfl) (aj_cons (ej_v (L2.pv 4)) (aj_cons (ej_v (L2.pv 1)) (aj_cons (ej_v (L2.pv 2)) aj_nil)))) (nm rfl) sc__law_room.nd rfl (.inl rfl))
    (sjs_cons (sj_set (i := 6) (fz := true) ej_int (nm rfl) sc__law_room.nd rfl (.inl rfl))
    (sjs_cons (sj_while (L2.passes_of rfl) ((wj_and (tj_lt (ej_v (L2.pv 6)) (ej_callB L2.call_len lenC_mono (lenC_says rfl) (by rfl) z_len (by decide +kernel) (aj_cons (ej_r (L2.pv 3)) aj_nil))) (wj_and1 (tj_val (ej_call d__law_in_order (by decide) rfl rfl hr (by decide) (by rfl) (L2.takes_of rfl rfl rfl rfl) (aj_cons (ej_ix rfl (fun _ _ => rfl) (ej_r (L2.pv 3)) (ej_v (L2.pv 6))) (aj_cons (ej_v (L2.pv 5)) aj_nil))))))).tj (sjs_one (sj_set (i := 6) (fz := true) (ej_add rfl (ej_v (L2.pv 6)) ej_int) (nm rfl) sc__law_room.nd rfl (.inl rfl))))
    (sjs_one (sj_expr (ej_methL rfl insL_mono insL_says PySem.F.slot_list_insert PySem.F.type_list_insert L2.mt_insert (L2.pv 3) (aj_cons (ej_v (L2.pv 6)) (aj_cons (ej_v (L2.pv 5)) aj_nil)))))))))
    (sjs_one (sj_ret (ej_m (L2.pv 3)))))))
    )
theorem sc__law_is_round : L2.FnScope ["_law_world_here", "_law_length", "_law_moment", "_law_twice", "_law_there", "_law_body", "_law_often", "_law_back"] ["_law_world_here", "_law_length", "_law_moment"] (L2.defScope (topS 46)) := ⟨rfl, rfl, rfl, by decide +kernel, rfl, by decide +kernel, by decide +kernel⟩
theorem ok__law_is_round {P : Program} {w : World} {K : PySem.W.Frag} {mg : Str → Option Value} {base : Heap} (a__law_is_round : At K mg "_law_is_round" "_law_is_round" (topS 46) ["_law_world_here", "_law_length", "_law_moment"]) (d__law_plus : Def P w K mg base 34 "_law_plus" ["_law_one", "_law_other"] [false, false] F__law_plus) (d__law_over : Def P w K mg base 34 "_law_over" ["_law_one", "_law_other"] [false, false] F__law_over) (d__law_times : Def P w K mg base 34 "_law_times" ["_law_one", "_law_other"] [false, false] F__law_times) (y_K : PyK P K mg) (d__law_minus : Def P w K mg base 34 "_law_minus" ["_law_one", "_law_other"] [false, false] F__law_minus) (d__law_room : Def P w K mg base 36 "_law_room" ["_law_world_here", "_law_length", "_law_moment"] [false, false, false] F__law_room) :
  DefR P w K mg base 37 "_law_is_round" ["_law_world_here", "_law_length", "_law_moment"] [false, false, false] (defF [false, false, false] 8 sf__law_is_round) :=
  DefR.mk' (k := 36) a__law_is_round sc__law_is_round rfl (by decide) (fun f cdv A outer s H E Z H0 io zd zi s0 hr =>
    ((sjs_cons (sj_set (i := 3) (fz := true) (ej_call d__law_plus (by decide) rfl rfl hr (by decide) (by rfl) (L2.takes_of rfl rfl rfl rfl) (aj_cons (ej_v (L2.pv 1)) (aj_cons (ej_v (L2.pv 1)) aj_nil))) (nm rfl) sc__law_is_round.nd rfl (.inl rfl))
    (sjs_cons (sj_set (i := 4) (fz := false) (ej_lst aj_nil) (nm rfl) sc__law_is_round.nd rfl (.inl rfl))
    (sjs_cons (sj_for (L2.passes_of rfl) rfl (ij_seq rfl (ej_v (L2.pv 0))) (gj_name (nm rfl) sc__law_is_round.nd rfl (.inl rfl)) (sjs_cons (sj_set (i := 6) (fz := true) (ej_call d__law_over (by decide) rfl rfl hr (by decide) (by rfl) (L2.takes_of rfl rfl rfl rfl) (aj_cons (ej_call d__law_times (by decide) rfl rfl hr (by decide) (by rfl) (L2.takes_of rfl rfl rfl rfl) (aj_cons (ej_ix rfl (fun _ _ => rfl) (ej_v (L2.pv 5)) ej_int) (aj_cons (ej_v (L2.pv 2)) aj_nil))) (aj_cons (ej_v (L2.pv 3)) aj_nil))) (nm rfl) sc__law_is_round.nd rfl (.inl rfl))
    (sjs_cons (sj_set (i := 7) (fz := true) (ej_call d__law_times (by decide) rfl rfl hr (by decide) (by rfl) (L2.takes_of rfl rfl rfl rfl) (aj_cons (ej_tup (aj_cons (ej_fdiv (pyD y_K sc__law_is_round (by decide) hr) (ej_ix rfl (fun _ _ => rfl) (ej_v (L2.pv 6)) ej_int) (ej_ix rfl (fun _ _ => rfl) (ej_v (L2.pv 6)) ej_int)) (aj_cons ej_int aj_nil)) rfl) (aj_cons (ej_v (L2.pv 3)) aj_nil))) (nm rfl) sc__law_is_round.nd rfl (.inl rfl))
    (sjs_one (sj_expr (ej_append rfl (L2.pv 4) (aj_cons (ej_tup (aj_cons (ej_call d__law_minus (by decide) rfl rfl hr (by decide) (by rfl) (L2.takes_of rfl rfl rfl rfl) (aj_cons (ej_ix rfl (fun _ _ => rfl) (ej_v (L2.pv 5)) ej_int) (aj_cons (ej_v (L2.pv 7)) aj_nil))) (aj_cons (ej_ix rfl (fun _ _ => rfl) (ej_v (L2.pv 5)) ej_int) (aj_cons (ej_ix rfl (fun _ _ => rfl) (ej_v (L2.pv 5)) ej_int) aj_nil))) rfl) aj_nil)))))))
    (sjs_one (sj_ret (ej_eq rfl (u128 hr) (ej_call d__law_room (by decide) rfl rfl hr (by decide) (by rfl) (L2.takes_of rfl rfl rfl rfl) (aj_cons (ej_r (L2.pv 4)) (aj_cons (ej_v (L2.pv 1)) (aj_cons (ej_v (L2.pv 2)) aj_nil)))) (ej_v (L2.pv 0)))))))))
    )
theorem sc__law_part : L2.FnScope ["_law_one", "_law_other"] ["_law_one", "_law_other"] (L2.defScope (topS 44)) := ⟨rfl, rfl, rfl, by decide +kernel, rfl, by decide +kernel, by decide +kernel⟩
theorem ok__law_part {P : Program} {w : World} {K : PySem.W.Frag} {mg : Str → Option Value} {base : Heap} (a__law_part : At K mg "_law_part" "_law_part" (topS 44) ["_law_one", "_law_other"]) :
  DefR P w K mg base 33 "_law_part" ["_law_one", "_law_other"] [false, false] (defF [false, false] 2 sf__law_part) :=
  DefR.mk' (k := 32) a__law_part sc__law_part rfl (by decide) (fun f cdv A outer s H E Z H0 io zd zi s0 hr =>
    ((sjs_cons (sj_while (L2.passes_of rfl) (tj_gt (ej_v (L2.pv 1)) ej_int) (sjs_one (sj_par (i := 0) (j := 1) (nm rfl) (nm rfl) rfl sc__law_part.nd rfl rfl (by decide) rfl rfl (aj_cons (ej_v (L2.pv 1)) (aj_cons (ej_mod (ej_v (L2.pv 0)) (ej_v (L2.pv 1))) aj_nil)) rfl)))
    (sjs_one (sj_ret (ej_v (L2.pv 0))))))
    )
theorem sc__law_common : L2.FnScope ["_law_one", "_law_other", "_law_top"] ["_law_one", "_law_other"] (L2.defScope (topS 45)) := ⟨rfl, rfl, rfl, by decide +kernel, rfl, by decide +kernel, by decide +kernel⟩
theorem ok__law_common {P : Program} {w : World} {K : PySem.W.Frag} {mg : Str → Option Value} {base : Heap} (a__law_common : At K mg "_law_common" "_law_common" (topS 45) ["_law_one", "_law_other"]) (d__law_part : Def P w K mg base 33 "_law_part" ["_law_one", "_law_other"] [false, false] F__law_part) (y_K : PyK P K mg) (d__law_fit : Def P w K mg base 33 "_law_fit" ["_law_top", "_law_bottom"] [false, false] F__law_fit) :
  DefR P w K mg base 34 "_law_common" ["_law_one", "_law_other"] [false, false] (defF [false, false] 3 sf__law_common) :=
  DefR.mk' (k := 33) a__law_common sc__law_common rfl (by decide) (fun f cdv A outer s H E Z H0 io zd zi s0 hr =>
    ((sjs_cons (sj_set (i := 2) (fz := true) (ej_fdiv (pyD y_K sc__law_common (by decide) hr) (ej_mul (ej_ix rfl (fun _ _ => rfl) (ej_v (L2.pv 0)) ej_int) (ej_ix rfl (fun _ _ => rfl) (ej_v (L2.pv 1)) ej_int)) (ej_call d__law_part (by decide) rfl rfl hr (by decide) (by rfl) (L2.takes_of rfl rfl rfl rfl) (aj_cons (ej_ix rfl (fun _ _ => rfl) (ej_v (L2.pv 0)) ej_int) (aj_cons (ej_ix rfl (fun _ _ => rfl) (ej_v (L2.pv 1)) ej_int) aj_nil)))) (nm rfl) sc__law_common.nd rfl (.inl rfl))
    (sjs_one (sj_ret (ej_call d__law_fit (by decide) rfl rfl hr (by decide) (by rfl) (L2.takes_of rfl rfl rfl rfl) (aj_cons (ej_v (L2.pv 2)) (aj_cons (ej_call d__law_part (by decide) rfl rfl hr (by decide) (by rfl) (L2.takes_of rfl rfl rfl rfl) (aj_cons (ej_ix rfl (fun _ _ => rfl) (ej_v (L2.pv 0)) ej_int) (aj_cons (ej_ix rfl (fun _ _ => rfl) (ej_v (L2.pv 1)) ej_int) aj_nil))) aj_nil)))))))
    )
theorem sc__law_due : L2.FnScope ["_law_world_here", "_law_length", "_law_round", "_law_body", "_law_own", "_law_prime"] ["_law_world_here", "_law_length"] (L2.defScope (topS 47)) := ⟨rfl, rfl, rfl, by decide +kernel, rfl, by decide +kernel, by decide +kernel⟩
theorem ok__law_due {P : Program} {w : World} {K : PySem.W.Frag} {mg : Str → Option Value} {base : Heap} (a__law_due : At K mg "_law_due" "_law_due" (topS 47) ["_law_world_here", "_law_length"]) (d__law_over : Def P w K mg base 34 "_law_over" ["_law_one", "_law_other"] [false, false] F__law_over) (d__law_plus : Def P w K mg base 34 "_law_plus" ["_law_one", "_law_other"] [false, false] F__law_plus) (d__law_common : Def P w K mg base 34 "_law_common" ["_law_one", "_law_other"] [false, false] F__law_common) (d__law_is_round : Def P w K mg base 37 "_law_is_round" ["_law_world_here", "_law_length", "_law_moment"] [false, false, false] F__law_is_round) (d__law_times : Def P w K mg base 34 "_law_times" ["_law_one", "_law_other"] [false, false] F__law_times) (z_abs : mg "abs" = none) :
  DefR P w K mg base 38 "_law_due" ["_law_world_here", "_law_length"] [false, false] (defF [false, false] 6 sf__law_due) :=
  DefR.mk' (k := 37) a__law_due sc__law_due rfl (by decide) (fun f cdv A outer s H E Z H0 io zd zi s0 hr =>
    ((sjs_cons (sj_set (i := 2) (fz := true) ej_non (nm rfl) sc__law_due.nd rfl (.inl rfl))
    (sjs_cons (sj_for (L2.passes_of rfl) rfl (ij_seq rfl (ej_v (L2.pv 0))) (gj_name (nm rfl) sc__law_due.nd rfl (.inl rfl)) (sjs_one (sj_if (tj_ne rfl (u128 hr) (ej_ix rfl (fun _ _ => rfl) (ej_ix rfl (fun _ _ => rfl) (ej_v (L2.pv 3)) ej_int) ej_int) ej_int) (sjs_cons (sj_set (i := 4) (fz := true) (ej_call d__law_over (by decide) rfl rfl hr (by decide) (by rfl) (L2.takes_of rfl rfl rfl rfl) (aj_cons (ej_call d__law_plus (by decide) rfl rfl hr (by decide) (by rfl) (L2.takes_of rfl rfl rfl rfl) (aj_cons (ej_v (L2.pv 1)) (aj_cons (ej_v (L2.pv 1)) aj_nil))) (aj_cons (ej_tup (aj_cons (ej_callB L2.call_abs absC_mono absC_says (by rfl) z_abs (by decide +kernel) (aj_cons (ej_ix rfl (fun _ _ => rfl) (ej_ix rfl (fun _ _ => rfl) (ej_v (L2.pv 3)) ej_int) ej_int) aj_nil)) (aj_cons (ej_ix rfl (fun _ _ => rfl) (ej_ix rfl (fun _ _ => rfl) (ej_v (L2.pv 3)) ej_int) ej_int) aj_nil)) rfl) aj_nil))) (nm rfl) sc__law_due.nd rfl (.inl rfl))
    (sjs_cons (sj_if (tj_is (ej_v (L2.pv 2)) ej_non) (sjs_one (sj_set (i := 2) (fz := true) (ej_v (L2.pv 4)) (nm rfl) sc__law_due.nd rfl (.inl rfl))) sjs_nil)
    (sjs_one (sj_set (i := 2) (fz := true) (ej_call d__law_common (by decide) rfl rfl hr (by decide) (by rfl) (L2.takes_of rfl rfl rfl rfl) (aj_cons (ej_v (L2.pv 2)) (aj_cons (ej_v (L2.pv 4)) aj_nil))) (nm rfl) sc__law_due.nd rfl (.inl rfl))))) sjs_nil)))
    (sjs_cons (sj_if (tj_is (ej_v (L2.pv 2)) ej_non) (sjs_one (sj_ret ej_non)) sjs_nil)
    (sjs_cons (sj_for (L2.passes_of rfl) rfl (ij_seq rfl (ej_lst (aj_cons ej_int (aj_cons ej_int (aj_cons ej_int (aj_cons ej_int (aj_cons ej_int aj_nil))))))) (gj_name (nm rfl) sc__law_due.nd rfl (.inl rfl)) (sjs_one (sj_while (L2.passes_of rfl) (tj_val (ej_call d__law_is_round (by decide) rfl rfl hr (by decide) (by rfl) (L2.takes_of rfl rfl rfl rfl) (aj_cons (ej_v (L2.pv 0)) (aj_cons (ej_v (L2.pv 1)) (aj_cons (ej_call d__law_times (by decide) rfl rfl hr (by decide) (by rfl) (L2.takes_of rfl rfl rfl rfl) (aj_cons (ej_v (L2.pv 2)) (aj_cons (ej_tup (aj_cons ej_int (aj_cons (ej_v (L2.pv 5)) aj_nil)) rfl) aj_nil))) aj_nil))))) (sjs_one (sj_set (i := 2) (fz := true) (ej_call d__law_times (by decide) rfl rfl hr (by decide) (by rfl) (L2.takes_of rfl rfl rfl rfl) (aj_cons (ej_v (L2.pv 2)) (aj_cons (ej_tup (aj_cons ej_int (aj_cons (ej_v (L2.pv 5)) aj_nil)) rfl) aj_nil))) (nm rfl) sc__law_due.nd rfl (.inl rfl))))))
    (sjs_one (sj_ret (ej_v (L2.pv 2)))))))))
    )
theorem sc_need_likes : L2.FnScope ["world", "number", "body"] ["world"] (L2.defScope (topS 16)) := ⟨rfl, rfl, rfl, by decide +kernel, rfl, by decide +kernel, by decide +kernel⟩
theorem ok_need_likes {P : Program} {w : World} {K : PySem.W.Frag} {mg : Str → Option Value} {base : Heap} (a_need_likes : At K mg "need_likes" "need_likes" (topS 16) ["world"]) (i_NoWorld : XIni P w K mg base 1 "NoWorld" ["at"]) (z_enumerate : mg "enumerate" = none) :
  DefR P w K mg base 33 "need_likes" ["world"] [false] (defF [false] 3 sf_need_likes) :=
  DefR.mk' (k := 32) a_need_likes sc_need_likes rfl (by decide) (fun f cdv A outer s H E Z H0 io zd zi s0 hr =>
    ((sjs_one (sj_for (L2.passes_of rfl) rfl (ij_enum rfl (by rfl) z_enumerate (aj_cons (ej_v (L2.pv 0)) aj_nil)) (gj_tup rfl rfl (gjs_cons (gj_name (nm rfl) sc_need_likes.nd rfl (.inl rfl)) (gjs_cons (gj_name (nm rfl) sc_need_likes.nd rfl (.inl rfl)) gjs_nil))) (sjs_one (sj_if (tj_ne rfl (u128 hr) (ej_ix rfl (fun _ _ => rfl) (ej_v (L2.pv 2)) ej_int) (ej_ix rfl (fun _ _ => rfl) (ej_ix rfl (fun _ _ => rfl) (ej_v (L2.pv 0)) ej_int) ej_int)) (sjs_one (sj_raiseI (fl := ["at"]) rfl rfl rfl hr (by decide) (L2.takes_of rfl rfl rfl rfl) i_NoWorld passes0 (by rfl) (aj_cons (ej_v (L2.pv 1)) aj_nil))) sjs_nil)))))
    )
theorem sc_under : L2.FnScope ["one", "other"] ["one", "other"] (L2.defScope (topS 14)) := ⟨rfl, rfl, rfl, by decide +kernel, rfl, by decide +kernel, by decide +kernel⟩
theorem ok_under {P : Program} {w : World} {K : PySem.W.Frag} {mg : Str → Option Value} {base : Heap} (a_under : At K mg "under" "under" (topS 14) ["one", "other"]) :
  DefR P w K mg base 33 "under" ["one", "other"] [false, false] (defF [false, false] 2 sf_under) :=
  DefR.mk' (k := 32) a_under sc_under rfl (by decide) (fun f cdv A outer s H E Z H0 io zd zi s0 hr =>
    ((sjs_one (sj_ret (ej_lt (ej_mul (ej_ix rfl (fun _ _ => rfl) (ej_v (L2.pv 0)) ej_int) (ej_ix rfl (fun _ _ => rfl) (ej_v (L2.pv 1)) ej_int)) (ej_mul (ej_ix rfl (fun _ _ => rfl) (ej_v (L2.pv 1)) ej_int) (ej_ix rfl (fun _ _ => rfl) (ej_v (L2.pv 0)) ej_int))))))
    )
theorem sc_need_within : L2.FnScope ["world", "length", "number", "body"] ["world", "length"] (L2.defScope (topS 18)) := ⟨rfl, rfl, rfl, by decide +kernel, rfl, by decide +kernel, by decide +kernel⟩
theorem ok_need_within {P : Program} {w : World} {K : PySem.W.Frag} {mg : Str → Option Value} {base : Heap} (a_need_within : At K mg "need_within" "need_within" (topS 18) ["world", "length"]) (d_under : Def P w K mg base 33 "under" ["one", "other"] [false, false] F_under) (g_NOUGHT : GD K mg "NOUGHT" gv_NOUGHT) (i_NoWorld : XIni P w K mg base 1 "NoWorld" ["at"]) (z_enumerate : mg "enumerate" = none) :
  DefR P w K mg base 34 "need_within" ["world", "length"] [false, false] (defF [false, false] 4 sf_need_within) :=
  DefR.mk' (k := 33) a_need_within sc_need_within rfl (by decide) (fun f cdv A outer s H E Z H0 io zd zi s0 hr =>
    ((sjs_one (sj_for (L2.passes_of rfl) rfl (ij_enum rfl (by rfl) z_enumerate (aj_cons (ej_v (L2.pv 0)) aj_nil)) (gj_tup rfl rfl (gjs_cons (gj_name (nm rfl) sc_need_within.nd rfl (.inl rfl)) (gjs_cons (gj_name (nm rfl) sc_need_within.nd rfl (.inl rfl)) gjs_nil))) (sjs_one (sj_if ((wj_or (tj_not (tj_val (ej_call d_under (by decide) rfl rfl hr (by decide) (by rfl) (L2.takes_of rfl rfl rfl rfl) (aj_cons (ej_gd rfl rfl (by rfl) g_NOUGHT) (aj_cons (ej_ix rfl (fun _ _ => rfl) (ej_v (L2.pv 3)) ej_int) aj_nil))))) (wj_or1 (tj_not (tj_val (ej_call d_under (by decide) rfl rfl hr (by decide) (by rfl) (L2.takes_of rfl rfl rfl rfl) (aj_cons (ej_ix rfl (fun _ _ => rfl) (ej_v (L2.pv 3)) ej_int) (aj_cons (ej_v (L2.pv 1)) aj_nil)))))))).tj (sjs_one (sj_raiseI (fl := ["at"]) rfl rfl rfl hr (by decide) (L2.takes_of rfl rfl rfl rfl) i_NoWorld passes0 (by rfl) (aj_cons (ej_v (L2.pv 2)) aj_nil))) sjs_nil)))))
    )
theorem sc_divisor : L2.FnScope ["one", "other"] ["one", "other"] (L2.defScope (topS 8)) := ⟨rfl, rfl, rfl, by decide +kernel, rfl, by decide +kernel, by decide +kernel⟩
theorem ok_divisor {P : Program} {w : World} {K : PySem.W.Frag} {mg : Str → Option Value} {base : Heap} (a_divisor : At K mg "divisor" "divisor" (topS 8) ["one", "other"]) :
  DefR P w K mg base 33 "divisor" ["one", "other"] [false, false] (defF [false, false] 2 sf_divisor) :=
  DefR.mk' (k := 32) a_divisor sc_divisor rfl (by decide) (fun f cdv A outer s H E Z H0 io zd zi s0 hr =>
    ((sjs_cons (sj_while (L2.passes_of rfl) (tj_gt (ej_v (L2.pv 1)) ej_int) (sjs_one (sj_par (i := 0) (j := 1) (nm rfl) (nm rfl) rfl sc_divisor.nd rfl rfl (by decide) rfl rfl (aj_cons (ej_v (L2.pv 1)) (aj_cons (ej_mod (ej_v (L2.pv 0)) (ej_v (L2.pv 1))) aj_nil)) rfl)))
    (sjs_one (sj_ret (ej_v (L2.pv 0))))))
    )
theorem sc_size_of : L2.FnScope ["number"] ["number"] (L2.defScope (topS 7)) := ⟨rfl, rfl, rfl, by decide +kernel, rfl, by decide +kernel, by decide +kernel⟩
theorem ok_size_of {P : Program} {w : World} {K : PySem.W.Frag} {mg : Str → Option Value} {base : Heap} (a_size_of : At K mg "size_of" "size_of" (topS 7) ["number"]) :
  DefR P w K mg base 33 "size_of" ["number"] [false] (defF [false] 1 sf_size_of) :=
  DefR.mk' (k := 32) a_size_of sc_size_of rfl (by decide) (fun f cdv A outer s H E Z H0 io zd zi s0 hr =>
    ((sjs_cons (sj_if (tj_lt (ej_v (L2.pv 0)) ej_int) (sjs_one (sj_ret (ej_sub ej_int (ej_v (L2.pv 0))))) sjs_nil)
    (sjs_one (sj_ret (ej_v (L2.pv 0))))))
    )
theorem sc_is_whole : L2.FnScope ["thing"] ["thing"] (L2.defScope (topS 6)) := ⟨rfl, rfl, rfl, by decide +kernel, rfl, by decide +kernel, by decide +kernel⟩
theorem ok_is_whole {P : Program} {w : World} {K : PySem.W.Frag} {mg : Str → Option Value} {base : Heap} (a_is_whole : At K mg "is_whole" "is_whole" (topS 6) ["thing"]) (z_bool : mg "bool" = none) (z_int : mg "int" = none) (z_isinstance : mg "isinstance" = none) :
  DefR P w K mg base 33 "is_whole" ["thing"] [false] (defF [false] 1 sf_is_whole) :=
  DefR.mk' (k := 32) a_is_whole sc_is_whole rfl (by decide) (fun f cdv A outer s H E Z H0 io zd zi s0 hr =>
    ((sjs_one (sj_ret (ej_and (ej_callB L2.call_isi isiC_mono (isiC_says rfl kb_ok) (by rfl) z_isinstance (by decide +kernel) (aj_cons (ej_v (L2.pv 0)) (aj_cons (ej_ty (by rfl) z_int (by decide +kernel)) aj_nil))) (ej_one (ej_not (ej_callB L2.call_isi isiC_mono (isiC_says rfl kb_ok) (by rfl) z_isinstance (by decide +kernel) (aj_cons (ej_v (L2.pv 0)) (aj_cons (ej_ty (by rfl) z_bool (by decide +kernel)) aj_nil)))))))))
    )
theorem sc_fraction : L2.FnScope ["top", "bottom", "both"] ["top", "bottom"] (L2.defScope (topS 9)) := ⟨rfl, rfl, rfl, by decide +kernel, rfl, by decide +kernel, by decide +kernel⟩
theorem ok_fraction {P : Program} {w : World} {K : PySem.W.Frag} {mg : Str → Option Value} {base : Heap} (a_fraction : At K mg "fraction" "fraction" (topS 9) ["top", "bottom"]) (d_is_whole : Def P w K mg base 33 "is_whole" ["thing"] [false] F_is_whole) (x_NoNumber : XCls K mg "NoNumber") (d_divisor : Def P w K mg base 33 "divisor" ["one", "other"] [false, false] F_divisor) (d_size_of : Def P w K mg base 33 "size_of" ["number"] [false] F_size_of) (y_K : PyK P K mg) :
  DefR P w K mg base 34 "fraction" ["top", "bottom"] [false, false] (defF [false, false] 3 sf_fraction) :=
  DefR.mk' (k := 33) a_fraction sc_fraction rfl (by decide) (fun f cdv A outer s H E Z H0 io zd zi s0 hr =>
    ((sjs_cons (sj_if ((wj_or (tj_not (tj_val (ej_call d_is_whole (by decide) rfl rfl hr (by decide) (by rfl) (L2.takes_of rfl rfl rfl rfl) (aj_cons (ej_v (L2.pv 0)) aj_nil)))) (wj_or (tj_not (tj_val (ej_call d_is_whole (by decide) rfl rfl hr (by decide) (by rfl) (L2.takes_of rfl rfl rfl rfl) (aj_cons (ej_v (L2.pv 1)) aj_nil)))) (wj_or1 (tj_eq rfl (u128 hr) (ej_v (L2.pv 1)) ej_int))))).tj (sjs_one (sj_raise rfl rfl rfl (L2.takes_of rfl rfl rfl rfl) x_NoNumber (by rfl))) sjs_nil)
    (sjs_cons (sj_set (i := 2) (fz := true) (ej_call d_divisor (by decide) rfl rfl hr (by decide) (by rfl) (L2.takes_of rfl rfl rfl rfl) (aj_cons (ej_call d_size_of (by decide) rfl rfl hr (by decide) (by rfl) (L2.takes_of rfl rfl rfl rfl) (aj_cons (ej_v (L2.pv 0)) aj_nil)) (aj_cons (ej_call d_size_of (by decide) rfl rfl hr (by decide) (by rfl) (L2.takes_of rfl rfl rfl rfl) (aj_cons (ej_v (L2.pv 1)) aj_nil)) aj_nil))) (nm rfl) sc_fraction.nd rfl (.inl rfl))
    (sjs_cons (sj_if (tj_lt (ej_v (L2.pv 1)) ej_int) (sjs_one (sj_set (i := 2) (fz := true) (ej_sub ej_int (ej_v (L2.pv 2))) (nm rfl) sc_fraction.nd rfl (.inl rfl))) sjs_nil)
    (sjs_one (sj_ret (ej_tup (aj_cons (ej_fdiv (pyD y_K sc_fraction (by decide) hr) (ej_v (L2.pv 0)) (ej_v (L2.pv 2))) (aj_cons (ej_fdiv (pyD y_K sc_fraction (by decide) hr) (ej_v (L2.pv 1)) (ej_v (L2.pv 2))) aj_nil)) rfl)))))))
    )
theorem sc_plus : L2.FnScope ["one", "other"] ["one", "other"] (L2.defScope (topS 10)) := ⟨rfl, rfl, rfl, by decide +kernel, rfl, by decide +kernel, by decide +kernel⟩
theorem ok_plus {P : Program} {w : World} {K : PySem.W.Frag} {mg : Str → Option Value} {base : Heap} (a_plus : At K mg "plus" "plus" (topS 10) ["one", "other"]) (d_fraction : Def P w K mg base 34 "fraction" ["top", "bottom"] [false, false] F_fraction) :
  DefR P w K mg base 35 "plus" ["one", "other"] [false, false] (defF [false, false] 2 sf_plus) :=
  DefR.mk' (k := 34) a_plus sc_plus rfl (by decide) (fun f cdv A outer s H E Z H0 io zd zi s0 hr =>
    ((sjs_one (sj_ret (ej_call d_fraction (by decide) rfl rfl hr (by decide) (by rfl) (L2.takes_of rfl rfl rfl rfl) (aj_cons (ej_add rfl (ej_mul (ej_ix rfl (fun _ _ => rfl) (ej_v (L2.pv 0)) ej_int) (ej_ix rfl (fun _ _ => rfl) (ej_v (L2.pv 1)) ej_int)) (ej_mul (ej_ix rfl (fun _ _ => rfl) (ej_v (L2.pv 1)) ej_int) (ej_ix rfl (fun _ _ => rfl) (ej_v (L2.pv 0)) ej_int))) (aj_cons (ej_mul (ej_ix rfl (fun _ _ => rfl) (ej_v (L2.pv 0)) ej_int) (ej_ix rfl (fun _ _ => rfl) (ej_v (L2.pv 1)) ej_int)) aj_nil))))))
    )
theorem sc_over : L2.FnScope ["one", "other"] ["one", "other"] (L2.defScope (topS 13)) := ⟨rfl, rfl, rfl, by decide +kernel, rfl, by decide +kernel, by decide +kernel⟩
theorem ok_over {P : Program} {w : World} {K : PySem.W.Frag} {mg : Str → Option Value} {base : Heap} (a_over : At K mg "over" "over" (topS 13) ["one", "other"]) (d_fraction : Def P w K mg base 34 "fraction" ["top", "bottom"] [false, false] F_fraction) :
  DefR P w K mg base 35 "over" ["one", "other"] [false, false] (defF [false, false] 2 sf_over) :=
  DefR.mk' (k := 34) a_over sc_over rfl (by decide) (fun f cdv A outer s H E Z H0 io zd zi s0 hr =>
    ((sjs_one (sj_ret (ej_call d_fraction (by decide) rfl rfl hr (by decide) (by rfl) (L2.takes_of rfl rfl rfl rfl) (aj_cons (ej_mul (ej_ix rfl (fun _ _ => rfl) (ej_v (L2.pv 0)) ej_int) (ej_ix rfl (fun _ _ => rfl) (ej_v (L2.pv 1)) ej_int)) (aj_cons (ej_mul (ej_ix rfl (fun _ _ => rfl) (ej_v (L2.pv 0)) ej_int) (ej_ix rfl (fun _ _ => rfl) (ej_v (L2.pv 1)) ej_int)) aj_nil))))))
    )
theorem sc_minus : L2.FnScope ["one", "other"] ["one", "other"] (L2.defScope (topS 11)) := ⟨rfl, rfl, rfl, by decide +kernel, rfl, by decide +kernel, by decide +kernel⟩
theorem ok_minus {P : Program} {w : World} {K : PySem.W.Frag} {mg : Str → Option Value} {base : Heap} (a_minus : At K mg "minus" "minus" (topS 11) ["one", "other"]) (d_fraction : Def P w K mg base 34 "fraction" ["top", "bottom"] [false, false] F_fraction) :
  DefR P w K mg base 35 "minus" ["one", "other"] [false, false] (defF [false, false] 2 sf_minus) :=
  DefR.mk' (k := 34) a_minus sc_minus rfl (by decide) (fun f cdv A outer s H E Z H0 io zd zi s0 hr =>
    ((sjs_one (sj_ret (ej_call d_fraction (by decide) rfl rfl hr (by decide) (by rfl) (L2.takes_of rfl rfl rfl rfl) (aj_cons (ej_sub (ej_mul (ej_ix rfl (fun _ _ => rfl) (ej_v (L2.pv 0)) ej_int) (ej_ix rfl (fun _ _ => rfl) (ej_v (L2.pv 1)) ej_int)) (ej_mul (ej_ix rfl (fun _ _ => rfl) (ej_v (L2.pv 1)) ej_int) (ej_ix rfl (fun _ _ => rfl) (ej_v (L2.pv 0)) ej_int))) (aj_cons (ej_mul (ej_ix rfl (fun _ _ => rfl) (ej_v (L2.pv 0)) ej_int) (ej_ix rfl (fun _ _ => rfl) (ej_v (L2.pv 1)) ej_int)) aj_nil))))))
    )
theorem sc_times : L2.FnScope ["one", "other"] ["one", "other"] (L2.defScope (topS 12)) := ⟨rfl, rfl, rfl, by decide +kernel, rfl, by decide +kernel, by decide +kernel⟩
theorem ok_times {P : Program} {w : World} {K : PySem.W.Frag} {mg : Str → Option Value} {base : Heap} (a_times : At K mg "times" "times" (topS 12) ["one", "other"]) (d_fraction : Def P w K mg base 34 "fraction" ["top", "bottom"] [false, false] F_fraction) :
  DefR P w K mg base 35 "times" ["one", "other"] [false, false] (defF [false, false] 2 sf_times) :=
  DefR.mk' (k := 34) a_times sc_times rfl (by decide) (fun f cdv A outer s H E Z H0 io zd zi s0 hr =>
    ((sjs_one (sj_ret (ej_call d_fraction (by decide) rfl rfl hr (by decide) (by rfl) (L2.takes_of rfl rfl rfl rfl) (aj_cons (ej_mul (ej_ix rfl (fun _ _ => rfl) (ej_v (L2.pv 0)) ej_int) (ej_ix rfl (fun _ _ => rfl) (ej_v (L2.pv 1)) ej_int)) (aj_cons (ej_mul (ej_ix rfl (fun _ _ => rfl) (ej_v (L2.pv 0)) ej_int) (ej_ix rfl (fun _ _ => rfl) (ej_v (L2.pv 1)) ej_int)) aj_nil))))))
    )
theorem sc_rest_of : L2.FnScope ["place", "length", "often"] ["place", "length"] (L2.defScope (topS 19)) := ⟨rfl, rfl, rfl, by decide +kernel, rfl, by decide +kernel, by decide +kernel⟩
theorem ok_rest_of {P : Program} {w : World} {K : PySem.W.Frag} {mg : Str → Option Value} {base : Heap} (a_rest_of : At K mg "rest_of" "rest_of" (topS 19) ["place", "length"]) (d_over : Def P w K mg base 35 "over" ["one", "other"] [false, false] F_over) (d_minus : Def P w K mg base 35 "minus" ["one", "other"] [false, false] F_minus) (d_times : Def P w K mg base 35 "times" ["one", "other"] [false, false] F_times) (d_fraction : Def P w K mg base 34 "fraction" ["top", "bottom"] [false, false] F_fraction) (y_K : PyK P K mg) :
  DefR P w K mg base 36 "rest_of" ["place", "length"] [false, false] (defF [false, false] 3 sf_rest_of) :=
  DefR.mk' (k := 35) a_rest_of sc_rest_of rfl (by decide) (fun f cdv A outer s H E Z H0 io zd zi s0 hr =>
    ((sjs_cons (sj_set (i := 2) (fz := true) (ej_call d_over (by decide) rfl rfl hr (by decide) (by rfl) (L2.takes_of rfl rfl rfl rfl) (aj_cons (ej_v (L2.pv 0)) (aj_cons (ej_v (L2.pv 1)) aj_nil))) (nm rfl) sc_rest_of.nd rfl (.inl rfl))
    (sjs_one (sj_ret (ej_call d_minus (by decide) rfl rfl hr (by decide) (by rfl) (L2.takes_of rfl rfl rfl rfl) (aj_cons (ej_v (L2.pv 0)) (aj_cons (ej_call d_times (by decide) rfl rfl hr (by decide) (by rfl) (L2.takes_of rfl rfl rfl rfl) (aj_cons (ej_call d_fraction (by decide) rfl rfl hr (by decide) (by rfl) (L2.takes_of rfl rfl rfl rfl) (aj_cons (ej_fdiv (pyD y_K sc_rest_of (by decide) hr) (ej_ix rfl (fun _ _ => rfl) (ej_v (L2.pv 2)) ej_int) (ej_ix rfl (fun _ _ => rfl) (ej_v (L2.pv 2)) ej_int)) (aj_cons ej_int aj_nil))) (aj_cons (ej_v (L2.pv 1)) aj_nil))) aj_nil)))))))
    )
theorem sc_turns_to_itself : L2.FnScope ["phases", "twice", "parts", "part", "phase"] ["phases", "twice", "parts"] (L2.defScope (topS 23)) := ⟨rfl, rfl, rfl, by decide +kernel, rfl, by decide +kernel, by decide +kernel⟩
theorem ok_turns_to_itself {P : Program} {w : World} {K : PySem.W.Frag} {mg : Str → Option Value} {base : Heap} (a_turns_to_itself : At K mg "turns_to_itself" "turns_to_itself" (topS 23) ["phases", "twice", "parts"]) (d_over : Def P w K mg base 35 "over" ["one", "other"] [false, false] F_over) (d_fraction : Def P w K mg base 34 "fraction" ["top", "bottom"] [false, false] F_fraction) (d_rest_of : Def P w K mg base 36 "rest_of" ["place", "length"] [false, false] F_rest_of) (d_plus : Def P w K mg base 35 "plus" ["one", "other"] [false, false] F_plus) :
  DefR P w K mg base 37 "turns_to_itself" ["phases", "twice", "parts"] [false, false, false] (defF [false, false, false] 5 sf_turns_to_itself) :=
  DefR.mk' (k := 36) a_turns_to_itself sc_turns_to_itself rfl (by decide) (fun f cdv A outer s H E Z H0 io zd zi s0 hr =>
    ((sjs_cons (sj_set (i := 3) (fz := true) (ej_call d_over (by decide) rfl rfl hr (by decide) (by rfl) (L2.takes_of rfl rfl rfl rfl) (aj_cons (ej_v (L2.pv 1)) (aj_cons (ej_call d_fraction (by decide) rfl rfl hr (by decide) (by rfl) (L2.takes_of rfl rfl rfl rfl) (aj_cons (ej_v (L2.pv 2)) (aj_cons ej_int aj_nil))) aj_nil))) (nm rfl) sc_turns_to_itself.nd rfl (.inl rfl))
    (sjs_cons (sj_for (L2.passes_of rfl) rfl (ij_seq rfl (ej_v (L2.pv 0))) (gj_name (nm rfl) sc_turns_to_itself.nd rfl (.inl rfl)) (sjs_one (sj_if (tj_notin rfl (u128 hr) (ej_call d_rest_of (by decide) rfl rfl hr (by decide) (by rfl) (L2.takes_of rfl rfl rfl rfl) (aj_cons (ej_call d_plus (by decide) rfl rfl hr (by decide) (by rfl) (L2.takes_of rfl rfl rfl rfl) (aj_cons (ej_v (L2.pv 4)) (aj_cons (ej_v (L2.pv 3)) aj_nil))) (aj_cons (ej_v (L2.pv 1)) aj_nil))) (ej_v (L2.pv 0))) (sjs_one (sj_ret ej_bl)) sjs_nil)))
    (sjs_one (sj_ret ej_bl)))))
    )
theorem sc_round_by : L2.FnScope ["phases", "twice", "speed", "parts"] ["phases", "twice", "speed"] (L2.defScope (topS 24)) := ⟨rfl, rfl, rfl, by decide +kernel, rfl, by decide +kernel, by decide +kernel⟩
theorem ok_round_by {P : Program} {w : World} {K : PySem.W.Frag} {mg : Str → Option Value} {base : Heap} (a_round_by : At K mg "round_by" "round_by" (topS 24) ["phases", "twice", "speed"]) (d_turns_to_itself : Def P w K mg base 37 "turns_to_itself" ["phases", "twice", "parts"] [false, false, false] F_turns_to_itself) (d_over : Def P w K mg base 35 "over" ["one", "other"] [false, false] F_over) (d_times : Def P w K mg base 35 "times" ["one", "other"] [false, false] F_times) (d_fraction : Def P w K mg base 34 "fraction" ["top", "bottom"] [false, false] F_fraction) (z_len : mg "len" = none) :
  DefR P w K mg base 38 "round_by" ["phases", "twice", "speed"] [false, false, false] (defF [false, false, false] 4 sf_round_by) :=
  DefR.mk' (k := 37) a_round_by sc_round_by rfl (by decide) (fun f cdv A outer s H E Z H0 io zd zi s0 hr =>
    ((sjs_cons (sj_set (i := 3) (fz := true) (ej_callB L2.call_len lenC_mono (lenC_says rfl) (by rfl) z_len (by decide +kernel) (aj_cons (ej_v (L2.pv 0)) aj_nil)) (nm rfl) sc_round_by.nd rfl (.inl rfl))
    (sjs_cons (sj_while (L2.passes_of rfl) (tj_not (tj_val (ej_call d_turns_to_itself (by decide) rfl rfl hr (by decide) (by rfl) (L2.takes_of rfl rfl rfl rfl) (aj_cons (ej_v (L2.pv 0)) (aj_cons (ej_v (L2.pv 1)) (aj_cons (ej_v (L2.pv 3)) aj_nil)))))) (sjs_one (sj_set (i := 3) (fz := true) (ej_sub (ej_v (L2.pv 3)) ej_int) (nm rfl) sc_round_by.nd rfl (.inl rfl))))
    (sjs_one (sj_ret (ej_call d_over (by decide) rfl rfl hr (by decide) (by rfl) (L2.takes_of rfl rfl rfl rfl) (aj_cons (ej_v (L2.pv 1)) (aj_cons (ej_call d_times (by decide) rfl rfl hr (by decide) (by rfl) (L2.takes_of rfl rfl rfl rfl) (aj_cons (ej_v (L2.pv 2)) (aj_cons (ej_call d_fraction (by decide) rfl rfl hr (by decide) (by rfl) (L2.takes_of rfl rfl rfl rfl) (aj_cons (ej_v (L2.pv 3)) (aj_cons ej_int aj_nil))) aj_nil))) aj_nil))))))))
    )
theorem sc_phase_of : L2.FnScope ["body", "length"] ["body", "length"] (L2.defScope (topS 21)) := ⟨rfl, rfl, rfl, by decide +kernel, rfl, by decide +kernel, by decide +kernel⟩
theorem ok_phase_of {P : Program} {w : World} {K : PySem.W.Frag} {mg : Str → Option Value} {base : Heap} (a_phase_of : At K mg "phase_of" "phase_of" (topS 21) ["body", "length"]) (d_under : Def P w K mg base 33 "under" ["one", "other"] [false, false] F_under) (g_NOUGHT : GD K mg "NOUGHT" gv_NOUGHT) (d_minus : Def P w K mg base 35 "minus" ["one", "other"] [false, false] F_minus) (d_plus : Def P w K mg base 35 "plus" ["one", "other"] [false, false] F_plus) :
  DefR P w K mg base 36 "phase_of" ["body", "length"] [false, false] (defF [false, false] 2 sf_phase_of) :=
  DefR.mk' (k := 35) a_phase_of sc_phase_of rfl (by decide) (fun f cdv A outer s H E Z H0 io zd zi s0 hr =>
    ((sjs_cons (sj_if (tj_val (ej_call d_under (by decide) rfl rfl hr (by decide) (by rfl) (L2.takes_of rfl rfl rfl rfl) (aj_cons (ej_ix rfl (fun _ _ => rfl) (ej_v (L2.pv 0)) ej_int) (aj_cons (ej_gd rfl rfl (by rfl) g_NOUGHT) aj_nil)))) (sjs_one (sj_ret (ej_call d_minus (by decide) rfl rfl hr (by decide) (by rfl) (L2.takes_of rfl rfl rfl rfl) (aj_cons (ej_call d_plus (by decide) rfl rfl hr (by decide) (by rfl) (L2.takes_of rfl rfl rfl rfl) (aj_cons (ej_v (L2.pv 1)) (aj_cons (ej_v (L2.pv 1)) aj_nil))) (aj_cons (ej_ix rfl (fun _ _ => rfl) (ej_v (L2.pv 0)) ej_int) aj_nil))))) sjs_nil)
    (sjs_one (sj_ret (ej_ix rfl (fun _ _ => rfl) (ej_v (L2.pv 0)) ej_int)))))
    )
theorem sc_greatness : L2.FnScope ["speed"] ["speed"] (L2.defScope (topS 20)) := ⟨rfl, rfl, rfl, by decide +kernel, rfl, by decide +kernel, by decide +kernel⟩
theorem ok_greatness {P : Program} {w : World} {K : PySem.W.Frag} {mg : Str → Option Value} {base : Heap} (a_greatness : At K mg "greatness" "greatness" (topS 20) ["speed"]) (d_under : Def P w K mg base 33 "under" ["one", "other"] [false, false] F_under) (g_NOUGHT : GD K mg "NOUGHT" gv_NOUGHT) (d_minus : Def P w K mg base 35 "minus" ["one", "other"] [false, false] F_minus) :
  DefR P w K mg base 36 "greatness" ["speed"] [false] (defF [false] 1 sf_greatness) :=
  DefR.mk' (k := 35) a_greatness sc_greatness rfl (by decide) (fun f cdv A outer s H E Z H0 io zd zi s0 hr =>
    ((sjs_cons (sj_if (tj_val (ej_call d_under (by decide) rfl rfl hr (by decide) (by rfl) (L2.takes_of rfl rfl rfl rfl) (aj_cons (ej_v (L2.pv 0)) (aj_cons (ej_gd rfl rfl (by rfl) g_NOUGHT) aj_nil)))) (sjs_one (sj_ret (ej_call d_minus (by decide) rfl rfl hr (by decide) (by rfl) (L2.takes_of rfl rfl rfl rfl) (aj_cons (ej_gd rfl rfl (by rfl) g_NOUGHT) (aj_cons (ej_v (L2.pv 0)) aj_nil))))) sjs_nil)
    (sjs_one (sj_ret (ej_v (L2.pv 0))))))
    )
theorem sc_phases_by_speed : L2.FnScope ["world", "length", "found", "body"] ["world", "length"] (L2.defScope (topS 22)) := ⟨rfl, rfl, rfl, by decide +kernel, rfl, by decide +kernel, by decide +kernel⟩
theorem ok_phases_by_speed {P : Program} {w : World} {K : PySem.W.Frag} {mg : Str → Option Value} {base : Heap} (a_phases_by_speed : At K mg "phases_by_speed" "phases_by_speed" (topS 22) ["world", "length"]) (g_NOUGHT : GD K mg "NOUGHT" gv_NOUGHT) (d_greatness : Def P w K mg base 36 "greatness" ["speed"] [false] F_greatness) (d_phase_of : Def P w K mg base 36 "phase_of" ["body", "length"] [false, false] F_phase_of) :
  DefR P w K mg base 37 "phases_by_speed" ["world", "length"] [false, false] (defF [false, false] 4 sf_phases_by_speed) :=
  DefR.mk' (k := 36) a_phases_by_speed sc_phases_by_speed rfl (by decide) (fun f cdv A outer s H E Z H0 io zd zi s0 hr =>
    ((sjs_cons (sj_set (i := 2) (fz := false) (ej_dnew (p := true)) (nm rfl) sc_phases_by_speed.nd rfl (.inl rfl))
    (sjs_cons (sj_for (L2.passes_of rfl) rfl (ij_seq rfl (ej_v (L2.pv 0))) (gj_name (nm rfl) sc_phases_by_speed.nd rfl (.inl rfl)) (sjs_one (sj_if (tj_ne rfl (u128 hr) (ej_ix rfl (fun _ _ => rfl) (ej_v (L2.pv 3)) ej_int) (ej_gd rfl rfl (by rfl) g_NOUGHT)) (sjs_one (sj_expr (ej_setd rfl (u128 hr) (L2.pv 2) (ej_call d_greatness (by decide) rfl rfl hr (by decide) (by rfl) (L2.takes_of rfl rfl rfl rfl) (aj_cons (ej_ix rfl (fun _ _ => rfl) (ej_v (L2.pv 3)) ej_int) aj_nil)) (ej_call d_phase_of (by decide) rfl rfl hr (by decide) (by rfl) (L2.takes_of rfl rfl rfl rfl) (aj_cons (ej_v (L2.pv 3)) (aj_cons (ej_v (L2.pv 1)) aj_nil))) ⟨rfl, rfl, rfl, rfl⟩))) sjs_nil)))
    (sjs_one (sj_ret (ej_m (L2.pv 2)))))))
    )
theorem sc_common_part : L2.FnScope ["one", "other"] ["one", "other"] (L2.defScope (topS 25)) := ⟨rfl, rfl, rfl, by decide +kernel, rfl, by decide +kernel, by decide +kernel⟩
theorem ok_common_part {P : Program} {w : World} {K : PySem.W.Frag} {mg : Str → Option Value} {base : Heap} (a_common_part : At K mg "common_part" "common_part" (topS 25) ["one", "other"]) (y_K : PyK P K mg) :
  DefR P w K mg base 33 "common_part" ["one", "other"] [false, false] (defF [false, false] 2 sf_common_part) :=
  DefR.mk' (k := 32) a_common_part sc_common_part rfl (by decide) (fun f cdv A outer s H E Z H0 io zd zi s0 hr =>
    ((sjs_cons (sj_while (L2.passes_of rfl) (tj_gt (ej_v (L2.pv 1)) ej_int) (sjs_one (sj_par (i := 0) (j := 1) (nm rfl) (nm rfl) rfl sc_common_part.nd rfl rfl (by decide) rfl rfl (aj_cons (ej_v (L2.pv 1)) (aj_cons (ej_sub (ej_v (L2.pv 0)) (ej_mul (ej_fdiv (pyD y_K sc_common_part (by decide) hr) (ej_v (L2.pv 0)) (ej_v (L2.pv 1))) (ej_v (L2.pv 1)))) aj_nil)) rfl)))
    (sjs_one (sj_ret (ej_v (L2.pv 0))))))
    )
theorem sc_least_common : L2.FnScope ["one", "other", "top"] ["one", "other"] (L2.defScope (topS 26)) := ⟨rfl, rfl, rfl, by decide +kernel, rfl, by decide +kernel, by decide +kernel⟩
theorem ok_least_common {P : Program} {w : World} {K : PySem.W.Frag} {mg : Str → Option Value} {base : Heap} (a_least_common : At K mg "least_common" "least_common" (topS 26) ["one", "other"]) (d_common_part : Def P w K mg base 33 "common_part" ["one", "other"] [false, false] F_common_part) (y_K : PyK P K mg) (d_fraction : Def P w K mg base 34 "fraction" ["top", "bottom"] [false, false] F_fraction) :
  DefR P w K mg base 35 "least_common" ["one", "other"] [false, false] (defF [false, false] 3 sf_least_common) :=
  DefR.mk' (k := 34) a_least_common sc_least_common rfl (by decide) (fun f cdv A outer s H E Z H0 io zd zi s0 hr =>
    ((sjs_cons (sj_set (i := 2) (fz := true) (ej_fdiv (pyD y_K sc_least_common (by decide) hr) (ej_mul (ej_ix rfl (fun _ _ => rfl) (ej_v (L2.pv 0)) ej_int) (ej_ix rfl (fun _ _ => rfl) (ej_v (L2.pv 1)) ej_int)) (ej_call d_common_part (by decide) rfl rfl hr (by decide) (by rfl) (L2.takes_of rfl rfl rfl rfl) (aj_cons (ej_ix rfl (fun _ _ => rfl) (ej_v (L2.pv 0)) ej_int) (aj_cons (ej_ix rfl (fun _ _ => rfl) (ej_v (L2.pv 1)) ej_int) aj_nil)))) (nm rfl) sc_least_common.nd rfl (.inl rfl))
    (sjs_one (sj_ret (ej_call d_fraction (by decide) rfl rfl hr (by decide) (by rfl) (L2.takes_of rfl rfl rfl rfl) (aj_cons (ej_v (L2.pv 2)) (aj_cons (ej_call d_common_part (by decide) rfl rfl hr (by decide) (by rfl) (L2.takes_of rfl rfl rfl rfl) (aj_cons (ej_ix rfl (fun _ _ => rfl) (ej_v (L2.pv 0)) ej_int) (aj_cons (ej_ix rfl (fun _ _ => rfl) (ej_v (L2.pv 1)) ej_int) aj_nil))) aj_nil)))))))
    )
theorem sc_round_of : L2.FnScope ["world", "length", "twice", "told", "speed", "phases", "own"] ["world", "length"] (L2.defScope (topS 27)) := ⟨rfl, rfl, rfl, by decide +kernel, rfl, by decide +kernel, by decide +kernel⟩
theorem ok_round_of {P : Program} {w : World} {K : PySem.W.Frag} {mg : Str → Option Value} {base : Heap} (a_round_of : At K mg "round_of" "round_of" (topS 27) ["world", "length"]) (d_need_likes : Def P w K mg base 33 "need_likes" ["world"] [false] F_need_likes) (d_need_within : Def P w K mg base 34 "need_within" ["world", "length"] [false, false] F_need_within) (d_plus : Def P w K mg base 35 "plus" ["one", "other"] [false, false] F_plus) (d_phases_by_speed : Def P w K mg base 37 "phases_by_speed" ["world", "length"] [false, false] F_phases_by_speed) (d_round_by : Def P w K mg base 38 "round_by" ["phases", "twice", "speed"] [false, false, false] F_round_by) (d_least_common : Def P w K mg base 35 "least_common" ["one", "other"] [false, false] F_least_common) :
  DefR P w K mg base 39 "round_of" ["world", "length"] [false, false] (defF [false, false] 7 sf_round_of) :=
  DefR.mk' (k := 38) a_round_of sc_round_of rfl (by decide) (fun f cdv A outer s H E Z H0 io zd zi s0 hr =>
    ((sjs_cons (sj_expr (ej_call d_need_likes (by decide) rfl rfl hr (by decide) (by rfl) (L2.takes_of rfl rfl rfl rfl) (aj_cons (ej_v (L2.pv 0)) aj_nil)))
    (sjs_cons (sj_expr (ej_call d_need_within (by decide) rfl rfl hr (by decide) (by rfl) (L2.takes_of rfl rfl rfl rfl) (aj_cons (ej_v (L2.pv 0)) (aj_cons (ej_v (L2.pv 1)) aj_nil))))
    (sjs_cons (sj_set (i := 2) (fz := true) (ej_call d_plus (by decide) rfl rfl hr (by decide) (by rfl) (L2.takes_of rfl rfl rfl rfl) (aj_cons (ej_v (L2.pv 1)) (aj_cons (ej_v (L2.pv 1)) aj_nil))) (nm rfl) sc_round_of.nd rfl (.inl rfl))
    (sjs_cons (sj_set (i := 3) (fz := true) ej_non (nm rfl) sc_round_of.nd rfl (.inl rfl))
    (sjs_cons (sj_for (L2.passes_of rfl) rfl (ij_itemsX (ej_call d_phases_by_speed (by decide) rfl rfl hr (by decide) (by rfl) (L2.takes_of rfl rfl rfl rfl) (aj_cons (ej_v (L2.pv 0)) (aj_cons (ej_v (L2.pv 1)) aj_nil)))) (gj_tup rfl rfl (gjs_cons (gj_name (nm rfl) sc_round_of.nd rfl (.inl rfl)) (gjs_cons (gj_name (nm rfl) sc_round_of.nd rfl (.inl rfl)) gjs_nil))) (sjs_cons (sj_set (i := 6) (fz := true) (ej_call d_round_by (by decide) rfl rfl hr (by decide) (by rfl) (L2.takes_of rfl rfl rfl rfl) (aj_cons (ej_v (L2.pv 5)) (aj_cons (ej_v (L2.pv 2)) (aj_cons (ej_v (L2.pv 4)) aj_nil)))) (nm rfl) sc_round_of.nd rfl (.inl rfl))
    (sjs_one (sj_if (tj_is (ej_v (L2.pv 3)) ej_non) (sjs_one (sj_set (i := 3) (fz := true) (ej_v (L2.pv 6)) (nm rfl) sc_round_of.nd rfl (.inl rfl))) (sjs_one (sj_set (i := 3) (fz := true) (ej_call d_least_common (by decide) rfl rfl hr (by decide) (by rfl) (L2.takes_of rfl rfl rfl rfl) (aj_cons (ej_v (L2.pv 3)) (aj_cons (ej_v (L2.pv 6)) aj_nil))) (nm rfl) sc_round_of.nd rfl (.inl rfl)))))))
    (sjs_one (sj_ret (ej_v (L2.pv 3))))))))))
    )
theorem sc_law : L2.FnScope ["_law_script", "_law_k", "_law_box_here", "_law_world_here", "_law_length", "_law_due_here", "_law_still", "_law_body"] ["_law_script"] (L2.defScope (topS 48)) := ⟨rfl, rfl, rfl, by decide +kernel, rfl, by decide +kernel, by decide +kernel⟩
theorem ok_law {P : Program} {w : World} {K : PySem.W.Frag} {mg : Str → Option Value} {base : Heap} (a_law : At K mg "law" "law" (topS 48) ["_law_script"]) (d__law_box : Def P w K mg base 34 "_law_box" ["_law_script", "_law_k"] [false, false] F__law_box) (d__law_within : Def P w K mg base 35 "_law_within" ["_law_box_here"] [true] F__law_within) (d__law_due : Def P w K mg base 38 "_law_due" ["_law_world_here", "_law_length"] [false, false] F__law_due) (d_round_of : Def P w K mg base 39 "round_of" ["world", "length"] [false, false] F_round_of) (z_len : mg "len" = none) (z_max : mg "max" = none) (z_min : mg "min" = none) (z_range : mg "range" = none) :
  DefR P w K mg base 40 "law" ["_law_script"] [false] (defF [false] 8 sf_law) :=
  DefR.mk' (k := 39) a_law sc_law rfl (by decide) (fun f cdv A outer s H E Z H0 io zd zi s0 hr =>
    ((sjs_cons (sj_for (L2.passes_of rfl) rfl (ij_range1 (by rfl) z_range (aj_cons (ej_callB (L2.call_max2 rfl) mmC_mono maxC_says (by rfl) z_max (by decide +kernel) (aj_cons ej_int (aj_cons (ej_callB (L2.call_min2 rfl) mmC_mono minC_says (by rfl) z_min (by decide +kernel) (aj_cons (ej_callB L2.call_len lenC_mono (lenC_says rfl) (by rfl) z_len (by decide +kernel) (aj_cons (ej_v (L2.pv 0)) aj_nil)) (aj_cons ej_int aj_nil))) aj_nil))) aj_nil)) (gj_name (nm rfl) sc_law.nd rfl (.inl rfl)) (sjs_cons (sj_set (i := 2) (fz := false) (ej_call d__law_box (by decide) rfl rfl hr (by decide) (by rfl) (L2.takes_of rfl rfl rfl rfl) (aj_cons (ej_v (L2.pv 0)) (aj_cons (ej_v (L2.pv 1)) aj_nil))) (nm rfl) sc_law.nd rfl (.inl rfl))
    (sjs_cons (sj_asg (ej_callI (i := 2) (kk := 0) (mm := 0) d__law_within rfl rfl rfl hr (by decide) (by rfl) (L2.takes_of rfl rfl rfl rfl) (aji_here (L2.pv 2) aj_nil)) (gj_tup rfl rfl (gjs_cons (gj_name (nm rfl) sc_law.nd rfl (.inl rfl)) (gjs_cons (gj_name (nm rfl) sc_law.nd rfl (.inl rfl)) gjs_nil))))
    (sjs_cons (sj_set (i := 5) (fz := true) (ej_call d__law_due (by decide) rfl rfl hr (by decide) (by rfl) (L2.takes_of rfl rfl rfl rfl) (aj_cons (ej_v (L2.pv 3)) (aj_cons (ej_v (L2.pv 4)) aj_nil))) (nm rfl) sc_law.nd rfl (.inl rfl))
    (sjs_cons (sj_if (tj_ne rfl (u128 hr) (ej_call d_round_of (by decide) rfl rfl hr (by decide) (by rfl) (L2.takes_of rfl rfl rfl rfl) (aj_cons (ej_v (L2.pv 3)) (aj_cons (ej_v (L2.pv 4)) aj_nil))) (ej_v (L2.pv 5))) (sjs_one (sj_ret ej_bl)) sjs_nil)
    (sjs_cons (sj_setlc (own := [("_law_body", 7)]) (i := 6) (fz := true) (nm rfl) rfl rfl rfl rfl sc_law.nd (by first | (simp; done) | (simp [frB, frOf, maskAt]; done)) (ij_seq rfl (ej_v (L2.pv 3))) (blk_ok (N := ["_law_script", "_law_k", "_law_box_here", "_law_world_here", "_law_length", "_law_due_here", "_law_still", "_law_body"]) (sc := L2.defScope (topS 48)) rfl rfl (by decide +kernel)) (fun _ _ _ _ _ => (gw_name (by simp) (nm rfl) sc_law.nd rfl (.inl rfl) (.inr rfl))) (fun _ _ _ _ _ => tjs_nil) (fun _ _ _ _ _ => (ej_tup (aj_cons (ej_ix rfl (fun _ _ => rfl) (ej_v (L2.pv 7)) ej_int) (aj_cons (ej_tup (aj_cons ej_int (aj_cons ej_int aj_nil)) rfl) (aj_cons (ej_ix rfl (fun _ _ => rfl) (ej_v (L2.pv 7)) ej_int) aj_nil))) rfl)))
    (sjs_one (sj_if ((wj_or (tj_isnot (ej_call d_round_of (by decide) rfl rfl hr (by decide) (by rfl) (L2.takes_of rfl rfl rfl rfl) (aj_cons (ej_v (L2.pv 6)) (aj_cons (ej_v (L2.pv 4)) aj_nil))) ej_non) (wj_or1 (tj_ne rfl (u128 hr) (ej_call d_round_of (by decide) rfl rfl hr (by decide) (by rfl) (L2.takes_of rfl rfl rfl rfl) (aj_cons (ej_v (L2.pv 3)) (aj_cons (ej_v (L2.pv 4)) aj_nil))) (ej_v (L2.pv 5)))))).tj (sjs_one (sj_ret ej_bl)) sjs_nil))))))))
    (sjs_one (sj_ret ej_bl))))
    )
theorem law_def {P : Program} {w : World} {K : PySem.W.Frag} {mg : Str → Option Value} (base : Heap) (a__law_cell : At K mg "_law_cell" "_law_cell" (topS 29) ["_law_script", "_law_k"]) (z_len : mg "len" = none) (a__law_mix : At K mg "_law_mix" "_law_mix" (topS 30) ["_law_cell_here", "_law_k"]) (a__law_box : At K mg "_law_box" "_law_box" (topS 31) ["_law_script", "_law_k"]) (y_K : PyK P K mg) (z_range : mg "range" = none) (a__law_fit : At K mg "_law_fit" "_law_fit" (topS 33) ["_law_top", "_law_bottom"]) (z_abs : mg "abs" = none) (a__law_take : At K mg "_law_take" "_law_take" (topS 32) ["_law_box_here", "_law_many"]) (z_divmod : mg "divmod" = none) (a__law_small : At K mg "_law_small" "_law_small" (topS 39) ["_law_box_here"]) (a__law_plus : At K mg "_law_plus" "_law_plus" (topS 34) ["_law_one", "_law_other"]) (a__law_minus : At K mg "_law_minus" "_law_minus" (topS 35) ["_law_one", "_law_other"]) (a__law_times : At K mg "_law_times" "_law_times" (topS 36) ["_law_one", "_law_other"]) (a__law_within : At K mg "_law_within" "_law_within" (topS 40) ["_law_box_here"]) (a__law_over : At K mg "_law_over" "_law_over" (topS 37) ["_law_one", "_law_other"]) (a__law_less : At K mg "_law_less" "_law_less" (topS 38) ["_law_one", "_law_other"]) (a__law_folded : At K mg "_law_folded" "_law_folded" (topS 41) ["_law_body", "_law_length", "_law_moment"]) (a__law_in_order : At K mg "_law_in_order" "_law_in_order" (topS 42) ["_law_one", "_law_other"]) (a__law_room : At K mg "_law_room" "_law_room" (topS 43) ["_law_world_here", "_law_length", "_law_moment"]) (a__law_is_round : At K mg "_law_is_round" "_law_is_round" (topS 46) ["_law_world_here", "_law_length", "_law_moment"]) (a__law_part : At K mg "_law_part" "_law_part" (topS 44) ["_law_one", "_law_other"]) (a__law_common : At K mg "_law_common" "_law_common" (topS 45) ["_law_one", "_law_other"]) (a__law_due : At K mg "_law_due" "_law_due" (topS 47) ["_law_world_here", "_law_length"]) (a_need_likes : At K mg "need_likes" "need_likes" (topS 16) ["world"]) (i_NoWorld : XIni P w K mg base 1 "NoWorld" ["at"]) (z_enumerate : mg "enumerate" = none) (a_under : At K mg "under" "under" (topS 14) ["one", "other"]) (a_need_within : At K mg "need_within" "need_within" (topS 18) ["world", "length"]) (g_NOUGHT : GD K mg "NOUGHT" gv_NOUGHT) (a_divisor : At K mg "divisor" "divisor" (topS 8) ["one", "other"]) (a_size_of : At K mg "size_of" "size_of" (topS 7) ["number"]) (a_is_whole : At K mg "is_whole" "is_whole" (topS 6) ["thing"]) (z_bool : mg "bool" = none) (z_int : mg "int" = none) (z_isinstance : mg "isinstance" = none) (a_fraction : At K mg "fraction" "fraction" (topS 9) ["top", "bottom"]) (x_NoNumber : XCls K mg "NoNumber") (a_plus : At K mg "plus" "plus" (topS 10) ["one", "other"]) (a_over : At K mg "over" "over" (topS 13) ["one", "other"]) (a_minus : At K mg "minus" "minus" (topS 11) ["one", "other"]) (a_times : At K mg "times" "times" (topS 12) ["one", "other"]) (a_rest_of : At K mg "rest_of" "rest_of" (topS 19) ["place", "length"]) (a_turns_to_itself : At K mg "turns_to_itself" "turns_to_itself" (topS 23) ["phases", "twice", "parts"]) (a_round_by : At K mg "round_by" "round_by" (topS 24) ["phases", "twice", "speed"]) (a_phase_of : At K mg "phase_of" "phase_of" (topS 21) ["body", "length"]) (a_greatness : At K mg "greatness" "greatness" (topS 20) ["speed"]) (a_phases_by_speed : At K mg "phases_by_speed" "phases_by_speed" (topS 22) ["world", "length"]) (a_common_part : At K mg "common_part" "common_part" (topS 25) ["one", "other"]) (a_least_common : At K mg "least_common" "least_common" (topS 26) ["one", "other"]) (a_round_of : At K mg "round_of" "round_of" (topS 27) ["world", "length"]) (a_law : At K mg "law" "law" (topS 48) ["_law_script"]) (z_max : mg "max" = none) (z_min : mg "min" = none) :
  Def P w K mg base 40 "law" ["_law_script"] [false] F_law := by
  have d__law_cell := (ok__law_cell (P := P) (w := w) (base := base) a__law_cell z_len).def m__law_cell to__law_cell defF_len
  have d__law_mix := (ok__law_mix (P := P) (w := w) (base := base) a__law_mix ).def m__law_mix to__law_mix defF_len
  have d__law_box := (ok__law_box (P := P) (w := w) (base := base) a__law_box d__law_cell y_K d__law_mix z_range).def m__law_box to__law_box defF_len
  have d__law_fit := (ok__law_fit (P := P) (w := w) (base := base) a__law_fit y_K z_abs).def m__law_fit to__law_fit defF_len
  have d__law_take := (ok__law_take (P := P) (w := w) (base := base) a__law_take y_K z_divmod).def m__law_take to__law_take defF_len
  have d__law_small := (ok__law_small (P := P) (w := w) (base := base) a__law_small d__law_fit d__law_take).def m__law_smallX to__law_smallX defF_len
  have d__law_plus := (ok__law_plus (P := P) (w := w) (base := base) a__law_plus d__law_fit).def m__law_plus to__law_plus defF_len
  have d__law_minus := (ok__law_minus (P := P) (w := w) (base := base) a__law_minus d__law_fit).def m__law_minus to__law_minus defF_len
  have d__law_times := (ok__law_times (P := P) (w := w) (base := base) a__law_times d__law_fit).def m__law_times to__law_times defF_len
  have d__law_within := (ok__law_within (P := P) (w := w) (base := base) a__law_within d__law_take d__law_fit d__law_small d__law_plus d__law_minus d__law_times z_range).def m__law_within to__law_within defF_len
  have d__law_over := (ok__law_over (P := P) (w := w) (base := base) a__law_over d__law_fit).def m__law_over to__law_over defF_len
  have d__law_less := (ok__law_less (P := P) (w := w) (base := base) a__law_less ).def m__law_less to__law_less defF_len
  have d__law_folded := (ok__law_folded (P := P) (w := w) (base := base) a__law_folded d__law_plus d__law_times d__law_less d__law_minus z_abs).def m__law_folded to__law_folded defF_len
  have d__law_in_order := (ok__law_in_order (P := P) (w := w) (base := base) a__law_in_order d__law_less).def m__law_in_order to__law_in_order defF_len
  have d__law_room := (ok__law_room (P := P) (w := w) (base := base) a__law_room d__law_folded d__law_in_order z_len).def m__law_room to__law_room defF_len
  have d__law_is_round := (ok__law_is_round (P := P) (w := w) (base := base) a__law_is_round d__law_plus d__law_over d__law_times y_K d__law_minus d__law_room).def m__law_is_round to__law_is_round defF_len
  have d__law_part := (ok__law_part (P := P) (w := w) (base := base) a__law_part ).def m__law_part to__law_part defF_len
  have d__law_common := (ok__law_common (P := P) (w := w) (base := base) a__law_common d__law_part y_K d__law_fit).def m__law_common to__law_common defF_len
  have d__law_due := (ok__law_due (P := P) (w := w) (base := base) a__law_due d__law_over d__law_plus d__law_common d__law_is_round d__law_times z_abs).def m__law_due to__law_due defF_len
  have d_need_likes := (ok_need_likes (P := P) (w := w) (base := base) a_need_likes i_NoWorld z_enumerate).def m_need_likes to_need_likes defF_len
  have d_under := (ok_under (P := P) (w := w) (base := base) a_under ).def m_under to_under defF_len
  have d_need_within := (ok_need_within (P := P) (w := w) (base := base) a_need_within d_under g_NOUGHT i_NoWorld z_enumerate).def m_need_within to_need_within defF_len
  have d_divisor := (ok_divisor (P := P) (w := w) (base := base) a_divisor ).def m_divisor to_divisor defF_len
  have d_size_of := (ok_size_of (P := P) (w := w) (base := base) a_size_of ).def m_size_of to_size_of defF_len
  have d_is_whole := (ok_is_whole (P := P) (w := w) (base := base) a_is_whole z_bool z_int z_isinstance).def m_is_whole to_is_whole defF_len
  have d_fraction := (ok_fraction (P := P) (w := w) (base := base) a_fraction d_is_whole x_NoNumber d_divisor d_size_of y_K).def m_fraction to_fraction defF_len
  have d_plus := (ok_plus (P := P) (w := w) (base := base) a_plus d_fraction).def m_plus to_plus defF_len
  have d_over := (ok_over (P := P) (w := w) (base := base) a_over d_fraction).def m_over to_over defF_len
  have d_minus := (ok_minus (P := P) (w := w) (base := base) a_minus d_fraction).def m_minus to_minus defF_len
  have d_times := (ok_times (P := P) (w := w) (base := base) a_times d_fraction).def m_times to_times defF_len
  have d_rest_of := (ok_rest_of (P := P) (w := w) (base := base) a_rest_of d_over d_minus d_times d_fraction y_K).def m_rest_of to_rest_of defF_len
  have d_turns_to_itself := (ok_turns_to_itself (P := P) (w := w) (base := base) a_turns_to_itself d_over d_fraction d_rest_of d_plus).def m_turns_to_itself to_turns_to_itself defF_len
  have d_round_by := (ok_round_by (P := P) (w := w) (base := base) a_round_by d_turns_to_itself d_over d_times d_fraction z_len).def m_round_by to_round_by defF_len
  have d_phase_of := (ok_phase_of (P := P) (w := w) (base := base) a_phase_of d_under g_NOUGHT d_minus d_plus).def m_phase_of to_phase_of defF_len
  have d_greatness := (ok_greatness (P := P) (w := w) (base := base) a_greatness d_under g_NOUGHT d_minus).def m_greatness to_greatness defF_len
  have d_phases_by_speed := (ok_phases_by_speed (P := P) (w := w) (base := base) a_phases_by_speed g_NOUGHT d_greatness d_phase_of).def m_phases_by_speed to_phases_by_speed defF_len
  have d_common_part := (ok_common_part (P := P) (w := w) (base := base) a_common_part y_K).def m_common_part to_common_part defF_len
  have d_least_common := (ok_least_common (P := P) (w := w) (base := base) a_least_common d_common_part y_K d_fraction).def m_least_common to_least_common defF_len
  have d_round_of := (ok_round_of (P := P) (w := w) (base := base) a_round_of d_need_likes d_need_within d_plus d_phases_by_speed d_round_by d_least_common).def m_round_of to_round_of defF_len
  have d_law := (ok_law (P := P) (w := w) (base := base) a_law d__law_box d__law_within d__law_due d_round_of z_len z_max z_min z_range).def m_law to_law defF_len
  exact d_law
abbrev stI_NoWorld : Stmt := methS (topS 3) 0
theorem scI_NoWorld : L2.FnScope ["self", "at"] ["self", "at"] (L2.defScope stI_NoWorld) := ⟨rfl, rfl, rfl, by decide +kernel, rfl, by decide +kernel, by decide +kernel⟩
def ddI_NoWorld : He.DefD := ⟨("NoWorld", some "__init__"), "__init__", "NoWorld.__init__", L2.defArgs stI_NoWorld, L2.defBody stI_NoWorld, L2.defScope stI_NoWorld, [], []⟩
def dd__law_cell : He.DefD := ⟨("_law_cell", none), "_law_cell", "_law_cell", L2.defArgs (topS 29), L2.defBody (topS 29), L2.defScope (topS 29), [], []⟩
def dd__law_mix : He.DefD := ⟨("_law_mix", none), "_law_mix", "_law_mix", L2.defArgs (topS 30), L2.defBody (topS 30), L2.defScope (topS 30), [], []⟩
def dd__law_box : He.DefD := ⟨("_law_box", none), "_law_box", "_law_box", L2.defArgs (topS 31), L2.defBody (topS 31), L2.defScope (topS 31), [], []⟩
def dd__law_fit : He.DefD := ⟨("_law_fit", none), "_law_fit", "_law_fit", L2.defArgs (topS 33), L2.defBody (topS 33), L2.defScope (topS 33), [], []⟩
def dd__law_take : He.DefD := ⟨("_law_take", none), "_law_take", "_law_take", L2.defArgs (topS 32), L2.defBody (topS 32), L2.defScope (topS 32), [], []⟩
def dd__law_small : He.DefD := ⟨("_law_small", none), "_law_small", "_law_small", L2.defArgs (topS 39), L2.defBody (topS 39), L2.defScope (topS 39), [], []⟩
def dd__law_plus : He.DefD := ⟨("_law_plus", none), "_law_plus", "_law_plus", L2.defArgs (topS 34), L2.defBody (topS 34), L2.defScope (topS 34), [], []⟩
def dd__law_minus : He.DefD := ⟨("_law_minus", none), "_law_minus", "_law_minus", L2.defArgs (topS 35), L2.defBody (topS 35), L2.defScope (topS 35), [], []⟩
def dd__law_times : He.DefD := ⟨("_law_times", none), "_law_times", "_law_times", L2.defArgs (topS 36), L2.defBody (topS 36), L2.defScope (topS 36), [], []⟩
def dd__law_within : He.DefD := ⟨("_law_within", none), "_law_within", "_law_within", L2.defArgs (topS 40), L2.defBody (topS 40), L2.defScope (topS 40), [], []⟩
def dd__law_over : He.DefD := ⟨("_law_over", none), "_law_over", "_law_over", L2.defArgs (topS 37), L2.defBody (topS 37), L2.defScope (topS 37), [], []⟩
def dd__law_less : He.DefD := ⟨("_law_less", none), "_law_less", "_law_less", L2.defArgs (topS 38), L2.defBody (topS 38), L2.defScope (topS 38), [], []⟩
def dd__law_folded : He.DefD := ⟨("_law_folded", none), "_law_folded", "_law_folded", L2.defArgs (topS 41), L2.defBody (topS 41), L2.defScope (topS 41), [], []⟩
def dd__law_in_order : He.DefD := ⟨("_law_in_order", none), "_law_in_order", "_law_in_order", L2.defArgs (topS 42), L2.defBody (topS 42), L2.defScope (topS 42), [], []⟩
def dd__law_room : He.DefD := ⟨("_law_room", none), "_law_room", "_law_room", L2.defArgs (topS 43), L2.defBody (topS 43), L2.defScope (topS 43), [], []⟩
def dd__law_is_round : He.DefD := ⟨("_law_is_round", none), "_law_is_round", "_law_is_round", L2.defArgs (topS 46), L2.defBody (topS 46), L2.defScope (topS 46), [], []⟩
def dd__law_part : He.DefD := ⟨("_law_part", none), "_law_part", "_law_part", L2.defArgs (topS 44), L2.defBody (topS 44), L2.defScope (topS 44), [], []⟩
def dd__law_common : He.DefD := ⟨("_law_common", none), "_law_common", "_law_common", L2.defArgs (topS 45), L2.defBody (topS 45), L2.defScope (topS 45), [], []⟩
def dd__law_due : He.DefD := ⟨("_law_due", none), "_law_due", "_law_due", L2.defArgs (topS 47), L2.defBody (topS 47), L2.defScope (topS 47), [], []⟩
def dd_need_likes : He.DefD := ⟨("need_likes", none), "need_likes", "need_likes", L2.defArgs (topS 16), L2.defBody (topS 16), L2.defScope (topS 16), [], []⟩
def dd_under : He.DefD := ⟨("under", none), "under", "under", L2.defArgs (topS 14), L2.defBody (topS 14), L2.defScope (topS 14), [], []⟩
def dd_need_within : He.DefD := ⟨("need_within", none), "need_within", "need_within", L2.defArgs (topS 18), L2.defBody (topS 18), L2.defScope (topS 18), [], []⟩
def dd_divisor : He.DefD := ⟨("divisor", none), "divisor", "divisor", L2.defArgs (topS 8), L2.defBody (topS 8), L2.defScope (topS 8), [], []⟩
def dd_size_of : He.DefD := ⟨("size_of", none), "size_of", "size_of", L2.defArgs (topS 7), L2.defBody (topS 7), L2.defScope (topS 7), [], []⟩
def dd_is_whole : He.DefD := ⟨("is_whole", none), "is_whole", "is_whole", L2.defArgs (topS 6), L2.defBody (topS 6), L2.defScope (topS 6), [], []⟩
def dd_fraction : He.DefD := ⟨("fraction", none), "fraction", "fraction", L2.defArgs (topS 9), L2.defBody (topS 9), L2.defScope (topS 9), [.int (1)], []⟩
def dd_plus : He.DefD := ⟨("plus", none), "plus", "plus", L2.defArgs (topS 10), L2.defBody (topS 10), L2.defScope (topS 10), [], []⟩
def dd_over : He.DefD := ⟨("over", none), "over", "over", L2.defArgs (topS 13), L2.defBody (topS 13), L2.defScope (topS 13), [], []⟩
def dd_minus : He.DefD := ⟨("minus", none), "minus", "minus", L2.defArgs (topS 11), L2.defBody (topS 11), L2.defScope (topS 11), [], []⟩
def dd_times : He.DefD := ⟨("times", none), "times", "times", L2.defArgs (topS 12), L2.defBody (topS 12), L2.defScope (topS 12), [], []⟩
def dd_rest_of : He.DefD := ⟨("rest_of", none), "rest_of", "rest_of", L2.defArgs (topS 19), L2.defBody (topS 19), L2.defScope (topS 19), [], []⟩
def dd_turns_to_itself : He.DefD := ⟨("turns_to_itself", none), "turns_to_itself", "turns_to_itself", L2.defArgs (topS 23), L2.defBody (topS 23), L2.defScope (topS 23), [], []⟩
def dd_round_by : He.DefD := ⟨("round_by", none), "round_by", "round_by", L2.defArgs (topS 24), L2.defBody (topS 24), L2.defScope (topS 24), [], []⟩
def dd_phase_of : He.DefD := ⟨("phase_of", none), "phase_of", "phase_of", L2.defArgs (topS 21), L2.defBody (topS 21), L2.defScope (topS 21), [], []⟩
def dd_greatness : He.DefD := ⟨("greatness", none), "greatness", "greatness", L2.defArgs (topS 20), L2.defBody (topS 20), L2.defScope (topS 20), [], []⟩
def dd_phases_by_speed : He.DefD := ⟨("phases_by_speed", none), "phases_by_speed", "phases_by_speed", L2.defArgs (topS 22), L2.defBody (topS 22), L2.defScope (topS 22), [], []⟩
def dd_common_part : He.DefD := ⟨("common_part", none), "common_part", "common_part", L2.defArgs (topS 25), L2.defBody (topS 25), L2.defScope (topS 25), [], []⟩
def dd_least_common : He.DefD := ⟨("least_common", none), "least_common", "least_common", L2.defArgs (topS 26), L2.defBody (topS 26), L2.defScope (topS 26), [], []⟩
def dd_round_of : He.DefD := ⟨("round_of", none), "round_of", "round_of", L2.defArgs (topS 27), L2.defBody (topS 27), L2.defScope (topS 27), [], []⟩
def dd_law : He.DefD := ⟨("law", none), "law", "law", L2.defArgs (topS 48), L2.defBody (topS 48), L2.defScope (topS 48), [], []⟩
def fn : List He.DefD := [dd__law_cell, dd__law_mix, dd__law_box, dd__law_fit, dd__law_take, dd__law_small, dd__law_plus, dd__law_minus, dd__law_times, dd__law_within, dd__law_over, dd__law_less, dd__law_folded, dd__law_in_order, dd__law_room, dd__law_is_round, dd__law_part, dd__law_common, dd__law_due, dd_need_likes, dd_under, dd_need_within, dd_divisor, dd_size_of, dd_is_whole, dd_fraction, dd_plus, dd_over, dd_minus, dd_times, dd_rest_of, dd_turns_to_itself, dd_round_by, dd_phase_of, dd_greatness, dd_phases_by_speed, dd_common_part, dd_least_common, dd_round_of, dd_law, ddI_NoWorld]
def gs : List (Str × D) := [("NOUGHT", gv_NOUGHT)]
def xb : List Xb := [.oex "NoWorld", .kbs "KnockError"]
def xa : List Xa := [.xf "NoWorld" "at"]
def fa : List He.Fa := [.glo "_law_cell", .glo "_law_mix", .glo "_law_box", .glo "_law_fit", .glo "_law_take", .glo "_law_small", .glo "_law_plus", .glo "_law_minus", .glo "_law_times", .glo "_law_within", .glo "_law_over", .glo "_law_less", .glo "_law_folded", .glo "_law_in_order", .glo "_law_room", .glo "_law_is_round", .glo "_law_part", .glo "_law_common", .glo "_law_due", .glo "need_likes", .glo "under", .glo "need_within", .glo "divisor", .glo "size_of", .glo "is_whole", .glo "fraction", .glo "plus", .glo "over", .glo "minus", .glo "times", .glo "rest_of", .glo "turns_to_itself", .glo "round_by", .glo "phase_of", .glo "greatness", .glo "phases_by_speed", .glo "common_part", .glo "least_common", .glo "round_of", .glo "law", .free "len", .free "range", .free "abs", .free "divmod", .free "enumerate", .free "bool", .free "int", .free "isinstance", .free "max", .free "min", .glo "__builtins__", .glo "NoNumber", .exc "NoNumber", .glo "NoWorld", .glo "KnockError"]
abbrev R : PySem.W.OpenRow := PySem.W.OpenLaw.row PySem.Challenge.rw_knockwright_k57_the_round
abbrev hk : PySem.W.Hook := hookZ 4 fa fn gs xa xb
def ob (s : PySem.W.SharedT) : AlZ := obsZ 4 fa fn gs xa xb (HandSHeadRun.getT s)
theorem ob_eq (s : PySem.W.SharedT) : ob s = hk.obs s.abs := obsZ_eq (HandSHeadRun.getT_eq s)
abbrev loose : List Str := [Str.ofString "KnockError", Str.ofString "NoNumber", Str.ofString "NoWorld", Str.ofString "NOUGHT", Str.ofString "is_whole", Str.ofString "size_of", Str.ofString "divisor", Str.ofString "fraction", Str.ofString "plus", Str.ofString "minus", Str.ofString "times", Str.ofString "over", Str.ofString "under", Str.ofString "need_likes", Str.ofString "need_within", Str.ofString "rest_of", Str.ofString "greatness", Str.ofString "phase_of", Str.ofString "phases_by_speed", Str.ofString "turns_to_itself", Str.ofString "round_by", Str.ofString "common_part", Str.ofString "least_common", Str.ofString "round_of", Str.ofString "_law_cell", Str.ofString "_law_mix", Str.ofString "_law_box", Str.ofString "_law_take", Str.ofString "_law_fit", Str.ofString "_law_plus", Str.ofString "_law_minus", Str.ofString "_law_times", Str.ofString "_law_over", Str.ofString "_law_less", Str.ofString "_law_small", Str.ofString "_law_within", Str.ofString "_law_folded", Str.ofString "_law_in_order", Str.ofString "_law_room", Str.ofString "_law_part", Str.ofString "_law_common", Str.ofString "_law_is_round", Str.ofString "_law_due"]
theorem run (w : World) : HandSHeadRun.RunEq R (PySem.W.view R.prog [48]) hk ob 3000 loose w := by
  intro os
  kernel_rfl
theorem law_all {w : World} {K : PySem.W.Frag} {h : Heap} {mg : Str → Option Value} {fa0 : Addr} (X : K.In h) (G : h.Ns mainGlobals mg) (hfa : mg "law" = some (.ref fa0)) (cz : SaysZ' fa fn gs xa xb K) :
    LamX.LawAtS PySem.Challenge.rw_knockwright_k57_the_round w K (L2.CX PySem.Challenge.pw_knockwright_k57_the_round w) 40 63 "_law_script" mg fa0 h := by
  have c000 := cz.1
  have c00 := c000.1
  have c0 := c00.1
  have c := c0.1
  have a__law_cell : At K mg "_law_cell" "_law_cell" (topS 29) ["_law_script", "_law_k"] := by
    obtain ⟨fd, F⟩ := c.def_ 0 (d := dd__law_cell) rfl
    exact ⟨_, _, fd, [], [], F, He.glo_ok X G (c.fact 0 (f := .glo "_law_cell") rfl), L2.FunD.bindsN F fun _ _ _ _ _ _ us hl => match us, hl with | [_, _], _ => rfl⟩
  have a__law_mix : At K mg "_law_mix" "_law_mix" (topS 30) ["_law_cell_here", "_law_k"] := by
    obtain ⟨fd, F⟩ := c.def_ 1 (d := dd__law_mix) rfl
    exact ⟨_, _, fd, [], [], F, He.glo_ok X G (c.fact 1 (f := .glo "_law_mix") rfl), L2.FunD.bindsN F fun _ _ _ _ _ _ us hl => match us, hl with | [_, _], _ => rfl⟩
  have a__law_box : At K mg "_law_box" "_law_box" (topS 31) ["_law_script", "_law_k"] := by
    obtain ⟨fd, F⟩ := c.def_ 2 (d := dd__law_box) rfl
    exact ⟨_, _, fd, [], [], F, He.glo_ok X G (c.fact 2 (f := .glo "_law_box") rfl), L2.FunD.bindsN F fun _ _ _ _ _ _ us hl => match us, hl with | [_, _], _ => rfl⟩
  have a__law_fit : At K mg "_law_fit" "_law_fit" (topS 33) ["_law_top", "_law_bottom"] := by
    obtain ⟨fd, F⟩ := c.def_ 3 (d := dd__law_fit) rfl
    exact ⟨_, _, fd, [], [], F, He.glo_ok X G (c.fact 3 (f := .glo "_law_fit") rfl), L2.FunD.bindsN F fun _ _ _ _ _ _ us hl => match us, hl with | [_, _], _ => rfl⟩
  have a__law_take : At K mg "_law_take" "_law_take" (topS 32) ["_law_box_here", "_law_many"] := by
    obtain ⟨fd, F⟩ := c.def_ 4 (d := dd__law_take) rfl
    exact ⟨_, _, fd, [], [], F, He.glo_ok X G (c.fact 4 (f := .glo "_law_take") rfl), L2.FunD.bindsN F fun _ _ _ _ _ _ us hl => match us, hl with | [_, _], _ => rfl⟩
  have a__law_small : At K mg "_law_small" "_law_small" (topS 39) ["_law_box_here"] := by
    obtain ⟨fd, F⟩ := c.def_ 5 (d := dd__law_small) rfl
    exact ⟨_, _, fd, [], [], F, He.glo_ok X G (c.fact 5 (f := .glo "_law_small") rfl), L2.FunD.bindsN F fun _ _ _ _ _ _ us hl => match us, hl with | [_], _ => rfl⟩
  have a__law_plus : At K mg "_law_plus" "_law_plus" (topS 34) ["_law_one", "_law_other"] := by
    obtain ⟨fd, F⟩ := c.def_ 6 (d := dd__law_plus) rfl
    exact ⟨_, _, fd, [], [], F, He.glo_ok X G (c.fact 6 (f := .glo "_law_plus") rfl), L2.FunD.bindsN F fun _ _ _ _ _ _ us hl => match us, hl with | [_, _], _ => rfl⟩
  have a__law_minus : At K mg "_law_minus" "_law_minus" (topS 35) ["_law_one", "_law_other"] := by
    obtain ⟨fd, F⟩ := c.def_ 7 (d := dd__law_minus) rfl
    exact ⟨_, _, fd, [], [], F, He.glo_ok X G (c.fact 7 (f := .glo "_law_minus") rfl), L2.FunD.bindsN F fun _ _ _ _ _ _ us hl => match us, hl with | [_, _], _ => rfl⟩
  have a__law_times : At K mg "_law_times" "_law_times" (topS 36) ["_law_one", "_law_other"] := by
    obtain ⟨fd, F⟩ := c.def_ 8 (d := dd__law_times) rfl
    exact ⟨_, _, fd, [], [], F, He.glo_ok X G (c.fact 8 (f := .glo "_law_times") rfl), L2.FunD.bindsN F fun _ _ _ _ _ _ us hl => match us, hl with | [_, _], _ => rfl⟩
  have a__law_within : At K mg "_law_within" "_law_within" (topS 40) ["_law_box_here"] := by
    obtain ⟨fd, F⟩ := c.def_ 9 (d := dd__law_within) rfl
    exact ⟨_, _, fd, [], [], F, He.glo_ok X G (c.fact 9 (f := .glo "_law_within") rfl), L2.FunD.bindsN F fun _ _ _ _ _ _ us hl => match us, hl with | [_], _ => rfl⟩
  have a__law_over : At K mg "_law_over" "_law_over" (topS 37) ["_law_one", "_law_other"] := by
    obtain ⟨fd, F⟩ := c.def_ 10 (d := dd__law_over) rfl
    exact ⟨_, _, fd, [], [], F, He.glo_ok X G (c.fact 10 (f := .glo "_law_over") rfl), L2.FunD.bindsN F fun _ _ _ _ _ _ us hl => match us, hl with | [_, _], _ => rfl⟩
  have a__law_less : At K mg "_law_less" "_law_less" (topS 38) ["_law_one", "_law_other"] := by
    obtain ⟨fd, F⟩ := c.def_ 11 (d := dd__law_less) rfl
    exact ⟨_, _, fd, [], [], F, He.glo_ok X G (c.fact 11 (f := .glo "_law_less") rfl), L2.FunD.bindsN F fun _ _ _ _ _ _ us hl => match us, hl with | [_, _], _ => rfl⟩
  have a__law_folded : At K mg "_law_folded" "_law_folded" (topS 41) ["_law_body", "_law_length", "_law_moment"] := by
    obtain ⟨fd, F⟩ := c.def_ 12 (d := dd__law_folded) rfl
    exact ⟨_, _, fd, [], [], F, He.glo_ok X G (c.fact 12 (f := .glo "_law_folded") rfl), L2.FunD.bindsN F fun _ _ _ _ _ _ us hl => match us, hl with | [_, _, _], _ => rfl⟩
  have a__law_in_order : At K mg "_law_in_order" "_law_in_order" (topS 42) ["_law_one", "_law_other"] := by
    obtain ⟨fd, F⟩ := c.def_ 13 (d := dd__law_in_order) rfl
    exact ⟨_, _, fd, [], [], F, He.glo_ok X G (c.fact 13 (f := .glo "_law_in_order") rfl), L2.FunD.bindsN F fun _ _ _ _ _ _ us hl => match us, hl with | [_, _], _ => rfl⟩
  have a__law_room : At K mg "_law_room" "_law_room" (topS 43) ["_law_world_here", "_law_length", "_law_moment"] := by
    obtain ⟨fd, F⟩ := c.def_ 14 (d := dd__law_room) rfl
    exact ⟨_, _, fd, [], [], F, He.glo_ok X G (c.fact 14 (f := .glo "_law_room") rfl), L2.FunD.bindsN F fun _ _ _ _ _ _ us hl => match us, hl with | [_, _, _], _ => rfl⟩
  have a__law_is_round : At K mg "_law_is_round" "_law_is_round" (topS 46) ["_law_world_here", "_law_length", "_law_moment"] := by
    obtain ⟨fd, F⟩ := c.def_ 15 (d := dd__law_is_round) rfl
    exact ⟨_, _, fd, [], [], F, He.glo_ok X G (c.fact 15 (f := .glo "_law_is_round") rfl), L2.FunD.bindsN F fun _ _ _ _ _ _ us hl => match us, hl with | [_, _, _], _ => rfl⟩
  have a__law_part : At K mg "_law_part" "_law_part" (topS 44) ["_law_one", "_law_other"] := by
    obtain ⟨fd, F⟩ := c.def_ 16 (d := dd__law_part) rfl
    exact ⟨_, _, fd, [], [], F, He.glo_ok X G (c.fact 16 (f := .glo "_law_part") rfl), L2.FunD.bindsN F fun _ _ _ _ _ _ us hl => match us, hl with | [_, _], _ => rfl⟩
  have a__law_common : At K mg "_law_common" "_law_common" (topS 45) ["_law_one", "_law_other"] := by
    obtain ⟨fd, F⟩ := c.def_ 17 (d := dd__law_common) rfl
    exact ⟨_, _, fd, [], [], F, He.glo_ok X G (c.fact 17 (f := .glo "_law_common") rfl), L2.FunD.bindsN F fun _ _ _ _ _ _ us hl => match us, hl with | [_, _], _ => rfl⟩
  have a__law_due : At K mg "_law_due" "_law_due" (topS 47) ["_law_world_here", "_law_length"] := by
    obtain ⟨fd, F⟩ := c.def_ 18 (d := dd__law_due) rfl
    exact ⟨_, _, fd, [], [], F, He.glo_ok X G (c.fact 18 (f := .glo "_law_due") rfl), L2.FunD.bindsN F fun _ _ _ _ _ _ us hl => match us, hl with | [_, _], _ => rfl⟩
  have a_need_likes : At K mg "need_likes" "need_likes" (topS 16) ["world"] := by
    obtain ⟨fd, F⟩ := c.def_ 19 (d := dd_need_likes) rfl
    exact ⟨_, _, fd, [], [], F, He.glo_ok X G (c.fact 19 (f := .glo "need_likes") rfl), L2.FunD.bindsN F fun _ _ _ _ _ _ us hl => match us, hl with | [_], _ => rfl⟩
  have a_under : At K mg "under" "under" (topS 14) ["one", "other"] := by
    obtain ⟨fd, F⟩ := c.def_ 20 (d := dd_under) rfl
    exact ⟨_, _, fd, [], [], F, He.glo_ok X G (c.fact 20 (f := .glo "under") rfl), L2.FunD.bindsN F fun _ _ _ _ _ _ us hl => match us, hl with | [_, _], _ => rfl⟩
  have a_need_within : At K mg "need_within" "need_within" (topS 18) ["world", "length"] := by
    obtain ⟨fd, F⟩ := c.def_ 21 (d := dd_need_within) rfl
    exact ⟨_, _, fd, [], [], F, He.glo_ok X G (c.fact 21 (f := .glo "need_within") rfl), L2.FunD.bindsN F fun _ _ _ _ _ _ us hl => match us, hl with | [_, _], _ => rfl⟩
  have a_divisor : At K mg "divisor" "divisor" (topS 8) ["one", "other"] := by
    obtain ⟨fd, F⟩ := c.def_ 22 (d := dd_divisor) rfl
    exact ⟨_, _, fd, [], [], F, He.glo_ok X G (c.fact 22 (f := .glo "divisor") rfl), L2.FunD.bindsN F fun _ _ _ _ _ _ us hl => match us, hl with | [_, _], _ => rfl⟩
  have a_size_of : At K mg "size_of" "size_of" (topS 7) ["number"] := by
    obtain ⟨fd, F⟩ := c.def_ 23 (d := dd_size_of) rfl
    exact ⟨_, _, fd, [], [], F, He.glo_ok X G (c.fact 23 (f := .glo "size_of") rfl), L2.FunD.bindsN F fun _ _ _ _ _ _ us hl => match us, hl with | [_], _ => rfl⟩
  have a_is_whole : At K mg "is_whole" "is_whole" (topS 6) ["thing"] := by
    obtain ⟨fd, F⟩ := c.def_ 24 (d := dd_is_whole) rfl
    exact ⟨_, _, fd, [], [], F, He.glo_ok X G (c.fact 24 (f := .glo "is_whole") rfl), L2.FunD.bindsN F fun _ _ _ _ _ _ us hl => match us, hl with | [_], _ => rfl⟩
  have a_fraction : At K mg "fraction" "fraction" (topS 9) ["top", "bottom"] := by
    obtain ⟨fd, F⟩ := c.def_ 25 (d := dd_fraction) rfl
    obtain ⟨ds, hv, hb⟩ := L2.FunD.binds1 (ps := ["top", "bottom"]) F 2 1 (List.cons_ne_nil _ _) rfl fun T kV doc pm an cdv ct us its h1 h2 => match us, h1, its, h2 with | [_, _], _, [_], _ => ⟨_, rfl, rfl⟩
    cases hv
    exact ⟨_, _, fd, _, _, F, He.glo_ok X G (c.fact 25 (f := .glo "fraction") rfl), hb⟩
  have a_plus : At K mg "plus" "plus" (topS 10) ["one", "other"] := by
    obtain ⟨fd, F⟩ := c.def_ 26 (d := dd_plus) rfl
    exact ⟨_, _, fd, [], [], F, He.glo_ok X G (c.fact 26 (f := .glo "plus") rfl), L2.FunD.bindsN F fun _ _ _ _ _ _ us hl => match us, hl with | [_, _], _ => rfl⟩
  have a_over : At K mg "over" "over" (topS 13) ["one", "other"] := by
    obtain ⟨fd, F⟩ := c.def_ 27 (d := dd_over) rfl
    exact ⟨_, _, fd, [], [], F, He.glo_ok X G (c.fact 27 (f := .glo "over") rfl), L2.FunD.bindsN F fun _ _ _ _ _ _ us hl => match us, hl with | [_, _], _ => rfl⟩
  have a_minus : At K mg "minus" "minus" (topS 11) ["one", "other"] := by
    obtain ⟨fd, F⟩ := c.def_ 28 (d := dd_minus) rfl
    exact ⟨_, _, fd, [], [], F, He.glo_ok X G (c.fact 28 (f := .glo "minus") rfl), L2.FunD.bindsN F fun _ _ _ _ _ _ us hl => match us, hl with | [_, _], _ => rfl⟩
  have a_times : At K mg "times" "times" (topS 12) ["one", "other"] := by
    obtain ⟨fd, F⟩ := c.def_ 29 (d := dd_times) rfl
    exact ⟨_, _, fd, [], [], F, He.glo_ok X G (c.fact 29 (f := .glo "times") rfl), L2.FunD.bindsN F fun _ _ _ _ _ _ us hl => match us, hl with | [_, _], _ => rfl⟩
  have a_rest_of : At K mg "rest_of" "rest_of" (topS 19) ["place", "length"] := by
    obtain ⟨fd, F⟩ := c.def_ 30 (d := dd_rest_of) rfl
    exact ⟨_, _, fd, [], [], F, He.glo_ok X G (c.fact 30 (f := .glo "rest_of") rfl), L2.FunD.bindsN F fun _ _ _ _ _ _ us hl => match us, hl with | [_, _], _ => rfl⟩
  have a_turns_to_itself : At K mg "turns_to_itself" "turns_to_itself" (topS 23) ["phases", "twice", "parts"] := by
    obtain ⟨fd, F⟩ := c.def_ 31 (d := dd_turns_to_itself) rfl
    exact ⟨_, _, fd, [], [], F, He.glo_ok X G (c.fact 31 (f := .glo "turns_to_itself") rfl), L2.FunD.bindsN F fun _ _ _ _ _ _ us hl => match us, hl with | [_, _, _], _ => rfl⟩
  have a_round_by : At K mg "round_by" "round_by" (topS 24) ["phases", "twice", "speed"] := by
    obtain ⟨fd, F⟩ := c.def_ 32 (d := dd_round_by) rfl
    exact ⟨_, _, fd, [], [], F, He.glo_ok X G (c.fact 32 (f := .glo "round_by") rfl), L2.FunD.bindsN F fun _ _ _ _ _ _ us hl => match us, hl with | [_, _, _], _ => rfl⟩
  have a_phase_of : At K mg "phase_of" "phase_of" (topS 21) ["body", "length"] := by
    obtain ⟨fd, F⟩ := c.def_ 33 (d := dd_phase_of) rfl
    exact ⟨_, _, fd, [], [], F, He.glo_ok X G (c.fact 33 (f := .glo "phase_of") rfl), L2.FunD.bindsN F fun _ _ _ _ _ _ us hl => match us, hl with | [_, _], _ => rfl⟩
  have a_greatness : At K mg "greatness" "greatness" (topS 20) ["speed"] := by
    obtain ⟨fd, F⟩ := c.def_ 34 (d := dd_greatness) rfl
    exact ⟨_, _, fd, [], [], F, He.glo_ok X G (c.fact 34 (f := .glo "greatness") rfl), L2.FunD.bindsN F fun _ _ _ _ _ _ us hl => match us, hl with | [_], _ => rfl⟩
  have a_phases_by_speed : At K mg "phases_by_speed" "phases_by_speed" (topS 22) ["world", "length"] := by
    obtain ⟨fd, F⟩ := c.def_ 35 (d := dd_phases_by_speed) rfl
    exact ⟨_, _, fd, [], [], F, He.glo_ok X G (c.fact 35 (f := .glo "phases_by_speed") rfl), L2.FunD.bindsN F fun _ _ _ _ _ _ us hl => match us, hl with | [_, _], _ => rfl⟩
  have a_common_part : At K mg "common_part" "common_part" (topS 25) ["one", "other"] := by
    obtain ⟨fd, F⟩ := c.def_ 36 (d := dd_common_part) rfl
    exact ⟨_, _, fd, [], [], F, He.glo_ok X G (c.fact 36 (f := .glo "common_part") rfl), L2.FunD.bindsN F fun _ _ _ _ _ _ us hl => match us, hl with | [_, _], _ => rfl⟩
  have a_least_common : At K mg "least_common" "least_common" (topS 26) ["one", "other"] := by
    obtain ⟨fd, F⟩ := c.def_ 37 (d := dd_least_common) rfl
    exact ⟨_, _, fd, [], [], F, He.glo_ok X G (c.fact 37 (f := .glo "least_common") rfl), L2.FunD.bindsN F fun _ _ _ _ _ _ us hl => match us, hl with | [_, _], _ => rfl⟩
  have a_round_of : At K mg "round_of" "round_of" (topS 27) ["world", "length"] := by
    obtain ⟨fd, F⟩ := c.def_ 38 (d := dd_round_of) rfl
    exact ⟨_, _, fd, [], [], F, He.glo_ok X G (c.fact 38 (f := .glo "round_of") rfl), L2.FunD.bindsN F fun _ _ _ _ _ _ us hl => match us, hl with | [_, _], _ => rfl⟩
  have a_law : At K mg "law" "law" (topS 48) ["_law_script"] := by
    obtain ⟨fd, F⟩ := c.def_ 39 (d := dd_law) rfl
    exact ⟨_, _, fd, [], [], F, He.glo_ok X G (c.fact 39 (f := .glo "law") rfl), L2.FunD.bindsN F fun _ _ _ _ _ _ us hl => match us, hl with | [_], _ => rfl⟩
  have y_K : PyK PySem.Challenge.pw_knockwright_k57_the_round K mg := pyK_of (by rfl) cz.2 (He.glo_ok X G (c.fact 50 (f := .glo "__builtins__") rfl))
  have z_len : mg "len" = none := He.free_ok X G (c.fact 40 (f := .free "len") rfl)
  have z_range : mg "range" = none := He.free_ok X G (c.fact 41 (f := .free "range") rfl)
  have z_abs : mg "abs" = none := He.free_ok X G (c.fact 42 (f := .free "abs") rfl)
  have z_divmod : mg "divmod" = none := He.free_ok X G (c.fact 43 (f := .free "divmod") rfl)
  have z_enumerate : mg "enumerate" = none := He.free_ok X G (c.fact 44 (f := .free "enumerate") rfl)
  have z_bool : mg "bool" = none := He.free_ok X G (c.fact 45 (f := .free "bool") rfl)
  have z_int : mg "int" = none := He.free_ok X G (c.fact 46 (f := .free "int") rfl)
  have z_isinstance : mg "isinstance" = none := He.free_ok X G (c.fact 47 (f := .free "isinstance") rfl)
  have z_max : mg "max" = none := He.free_ok X G (c.fact 48 (f := .free "max") rfl)
  have z_min : mg "min" = none := He.free_ok X G (c.fact 49 (f := .free "min") rfl)
  have x_NoNumber : XCls K mg "NoNumber" := ⟨_, He.glo_ok X G (c.fact 51 (f := .glo "NoNumber") rfl), He.exc_ok (c.fact 52 (f := .exc "NoNumber") rfl)⟩
  have kb_NoWorld : KBase K mg "KnockError" := kbase_of (He.glo_ok X G (c.fact 54 (f := .glo "KnockError") rfl)) (c000.bt 1 (x := .kbs "KnockError") rfl)
  have i_NoWorld : ∀ base, XIni PySem.Challenge.pw_knockwright_k57_the_round w K mg base 1 "NoWorld" ["at"] := by
    intro base
    obtain ⟨fd, F⟩ := c.def_ 40 (d := ddI_NoWorld) rfl
    have oe := Xb.oex_ok (c000.bt 0 (x := .oex "NoWorld") rfl)
    have F' : L2.FunD K "__init__" "NoWorld.__init__" (L2.defArgs stI_NoWorld) (L2.defBody stI_NoWorld) (L2.defScope stI_NoWorld) _ _ (He.ma K (He.ga K "NoWorld") "__init__") fd := F
    exact xini1 (He.glo_ok X G (c.fact 53 (f := .glo "NoWorld") rfl)) oe.1 oe.2.1 oe.2.2 F' (L2.FunD.bindsN F fun _ _ _ _ _ _ us hl => match us, hl with | [_, _], _ => rfl) scI_NoWorld (of_decide_eq_true (c00.at_ 0 (x := .xf "NoWorld" "at") rfl)) fun cdv A outer s H E => L2.pss_cons (L2.ps_expr (pe_kinit kb_NoWorld (by rfl) (L2.pa_cons (L2.pv 0) (L2.pa_cons L2.pe_str L2.pa_nil rfl) rfl))) (L2.pss_one (L2.ps_ost (L2.pv 0) (L2.pv 1)))
  have g_NOUGHT : GD K mg "NOUGHT" gv_NOUGHT := c0.gd X G (p := ("NOUGHT", gv_NOUGHT)) (by simp [gs])
  obtain ⟨fd, F⟩ := c.def_ 39 (d := dd_law) rfl
  have b := L2.FunD.bindsA (ps := ["_law_script"]) F fun _ _ _ _ _ _ us hl => match us, hl with | [_], _ => rfl
  exact law_end (st := topS 48) (qual := "law") hfa (He.glo_ok X G (c.fact 39 (f := .glo "law") rfl)) F (fun s v => b s [v] rfl) fun base kb nb => law_def base a__law_cell z_len a__law_mix a__law_box y_K z_range a__law_fit z_abs a__law_take z_divmod a__law_small a__law_plus a__law_minus a__law_times a__law_within a__law_over a__law_less a__law_folded a__law_in_order a__law_room a__law_is_round a__law_part a__law_common a__law_due a_need_likes (i_NoWorld base) z_enumerate a_under a_need_within g_NOUGHT a_divisor a_size_of a_is_whole z_bool z_int z_isinstance a_fraction x_NoNumber a_plus a_over a_minus a_times a_rest_of a_turns_to_itself a_round_by a_phase_of a_greatness a_phases_by_speed a_common_part a_least_common a_round_of a_law z_max z_min
end VS
open PySem PySem.W PySem.Calls PyProof.Rows
set_option maxHeartbeats 0 in
theorem PySem.Challenge.cw_knockwright_k57_the_round_holds : PySem.Challenge.rw_knockwright_k57_the_round.Holds := by
  w_on; o_law
  refine HandSHeadRun.head_any (r := OpenLaw.row PySem.Challenge.rw_knockwright_k57_the_round) (q := view (OpenLaw.row PySem.Challenge.rw_knockwright_k57_the_round).prog [48]) (H := VS.hk) (ob := VS.ob) (M := 3000) (loose := VS.loose) (d := HandSHeadRun.topDef (OpenLaw.row PySem.Challenge.rw_knockwright_k57_the_round).prog 48) (kwd := []) VS.ob_eq
    (by kernel_rfl) (fun s => by kernel_rfl) VS.run (by kernel_rfl) (by kernel_rfl) (by kernel_rfl) (by rfl) (by first | assumption | decide +kernel) (by decide +kernel) ⟨rfl, rfl, rfl, rfl, rfl, by decide +kernel⟩ ?hw ?hc
  case hw => w_witness2
  case hc =>
    refine LamX.walk_ofTsE (l := PySem.Challenge.rw_knockwright_k57_the_round) (n := 63) (k := 40) (x := "_law_script") (CX := fun w => L2.CX PySem.Challenge.pw_knockwright_k57_the_round w) rfl (by decide) (by kernel_rfl) ⟨rfl, by decide, by decide⟩ ?F (fun _ _ _ _ _ h => VS.cx_end h)
    intro w mg fa h Y G hmg0
    obtain ⟨K, KX, c⟩ := Y
    have hmg : mg ("law" : PySem.Str) = some (.ref fa) := by
      have e : (HandSHeadRun.topDef (OpenLaw.row PySem.Challenge.rw_knockwright_k57_the_round).prog 48).name = ("law" : PySem.Str) := by kernel_rfl
      rw [← e]
      exact hmg0
    exact ⟨K, KX, VS.law_all KX G hmg c⟩
#print axioms PySem.Challenge.cw_knockwright_k57_the_round_holds
