import PyProof.Rows.All
import HandS.ForMost
import HandS.ForExc
import HandS.Wide
import HandS.CallSlots
import KE.DataEq
import HandS.IsInst
import HandS.Defaults
import HandS.More
import HandS.TryOnly
import HandS.ExcField
import KE.KExcIs
import HandS.ExcIs
import HandS.ExcInit
import KE.KStateDown
import HandS.Head0
import HandS.Head1
import HandS.Head2
import HandS.HeadEnd
import HandS.HeadHook1
import HandS.HeadHook2
import HandS.HeadWalk
import HandS.ClsMeth
import HandS.ExcValue
import HandS.Conv
import HandS.SortInts
import HandS.Dict
import HandS.DictEq
import HandS.DeepEq
import HandS.TupAny
import HandS.TupMul
import HandS.DictComp
import KE.KEqNest
import PyProof.NeKinds
import HandS.Rev
import HandS.RevTup
import PySem.Challenge.RW_knockwright_k07_refusals_made
set_option Elab.async false
set_option linter.all false
set_option maxRecDepth 100000
set_option maxHeartbeats 4000000
/-! VS1: data without a heap (D: shared, nobody changes it; Sl: owned, what a slot holds), how they lie in the abstract heap. Own work. -/
namespace VS
open PySem PySem.Spec PyProof.Rows
open L2 (V Hp HO upd SqL SqT Rd)
/-- shared data; a list is stable (true), or was handed in and may be changed again behind the call (false) -/
inductive D where
  | non | bl (b : Bool) | int (i : Int) | str (s : Str) | ty (n : String) | fn (x : Str)
  | tup (ds : List D)
  | lst (st : Bool) (ds : List D)
  | dct (ks : List L2.Key) (ds : List D)
  /-- an exception: its class, the names and the values of its fields -/
  | ex (cn : Str) (ns : List Str) (ds : List D)
/-- what one owner holds: shared data; a list of shared data that it may change; a tuple, an object, a list of such -/
inductive Sl where
  | no
  | v (d : D)
  | l (ds : List D)
  | t (ss : List Sl)
  | o (cn : Str) (ns : List Str) (ss : List Sl)
  | ll (ss : List Sl)
  /-- a dict whose keys are tuples of whole numbers -/
  | dt (ks : List (List Int)) (ss : List Sl)
/-- a tuple of whole numbers -/
def keyD (k : List Int) : D := .tup (k.map .int)
/-- a dict whose keys are such: its entries (the key, its address, the value's address) -/
def dXin (a : Addr) (kb : List (List Int × Addr × Addr)) (h : Heap) : Prop := (a == sysModules) = false ∧ ∃ (P : Program) (w : World) (o : Obj) (es : Array DictEntry) (ep : Nat), h.get? a = some o ∧ o.ExactDict ∧ o.data = .dict es ep ∧ es.toList = kb.map (fun x => entryOfKey (tupleKind (PySem.intKind P w)) (x.1, x.2.1, .ref x.2.2)) ∧ (kb.map (·.1)).Nodup
def dX (a : Addr) (kb : List (List Int × Addr × Addr)) : HO := .ext (dXin a kb)
mutual
/-- may be handed back -/
def retOk : D → Bool
  | .tup ds => retOks ds
  | .lst st ds => st && retOks ds
  | .dct _ ds => retOks ds
  | .ex _ _ ds => retOks ds
  | _ => true
def retOks : List D → Bool
  | [] => true
  | d :: ds => retOk d && retOks ds
end
mutual
def retSl : Sl → Bool
  | .no => false
  | .v d => retOk d
  | .l ds => retOks ds
  | .t ss => retSls ss
  | .o _ _ ss => retSls ss
  | .ll ss => retSls ss
  | .dt _ ss => retSls ss
def retSls : List Sl → Bool
  | [] => true
  | s :: ss => retSl s && retSls ss
end
theorem retInts : ∀ k : List Int, retOks (k.map .int) = true
  | [] => rfl
  | _ :: k => by rw [List.map_cons, retOks, retInts k] <;> rfl
theorem retKeys : ∀ kb : List (List Int × Addr × Addr), retOks (kb.map fun x => keyD x.1) = true
  | [] => rfl
  | x :: kb => by rw [List.map_cons, retOks, retKeys kb, keyD, retOk, retInts] <;> rfl
/-! owned no more -/
mutual
def frSl : Sl → Option D
  | .no => none
  | .v d => some d
  | .l ds => some (.lst true ds)
  | .t ss => (frSls ss).map .tup
  | .o _ _ _ => none
  | .ll ss => (frSls ss).map (.lst true)
  | .dt _ _ => none
def frSls : List Sl → Option (List D)
  | [] => some []
  | s :: ss => (frSl s).bind fun d => (frSls ss).map (d :: ·)
end
structure Ge where
  K : PySem.W.Frag
  mg : Str → Option Value
/-- a list of the written part -/
def KL (K : PySem.W.Frag) (a : Addr) (xs : List V) : Prop :=
  ∃ (o : Obj) (its : Array Value) (n : Nat), K.lookup a = some o ∧ o.cls = .type "list" ∧ o.dict = none ∧ o.data = .seq its n ∧ its.size ≤ sizeLine ∧ L2.Vals xs its.toList
/-- a list that nobody changes: tracked (P: what is asked of its address), known, or written -/
def LT (K : PySem.W.Frag) (P : Addr → Prop) (H : Hp) (a : Addr) (vs : List V) : Prop :=
  (H a = some (.lst vs) ∧ P a) ∨ (∃ o, H a = some (.frz o (.lst vs))) ∨ KL K a vs
theorem LT.sq {K : PySem.W.Frag} {P : Addr → Prop} {H : Hp} {a : Addr} {vs : List V} (h : LT K P H a vs) : SqL K H a vs := by
  rcases h with ⟨h, _⟩ | h | h
  · exact .inl (.inl h)
  · exact .inl (.inr h)
  · exact .inr h
theorem LT.imp {K : PySem.W.Frag} {P P' : Addr → Prop} {H : Hp} {a : Addr} {vs : List V} (hp : ∀ a, H a ≠ none → P a → P' a) (h : LT K P H a vs) : LT K P' H a vs := by
  rcases h with ⟨h, p⟩ | h | h
  · exact .inl ⟨h, hp a (by rw [h]; simp) p⟩
  · exact .inr (.inl h)
  · exact .inr (.inr h)
/-- the object of an exception of the class at C, its dict at d -/
structure XObj (oe : Obj) (C : Addr) (d : Option Addr) : Prop where
  cls : oe.cls = .ref C
  dict : oe.dict = d
  data : ∃ vs, oe.data = .fields vs
mutual
/-- v stands for d over H; M: the addresses that are owned here, Z: those of the callers -/
inductive Rep (g : Ge) (Z : Addr → Prop) (M : Addr → Prop) (H : Hp) : V → D → Prop
  | non : Rep g Z M H .non .non
  | bl (b : Bool) : Rep g Z M H (.bl b) (.bl b)
  | int (i : Int) : Rep g Z M H (.int i) (.int i)
  | str (s : Str) : Rep g Z M H (.str s) (.str s)
  | ty (n : String) : Rep g Z M H (.ty n) (.ty n)
  | fn {x : Str} {a : Addr} : g.mg x = some (.ref a) → Rep g Z M H (.ref a) (.fn x)
  | tup {a : Addr} {vs : List V} {ds : List D} : SqT g.K H a vs → Reps g Z M H vs ds → Rep g Z M H (.ref a) (.tup ds)
  | lst {st : Bool} {a : Addr} {vs : List V} {ds : List D} : LT g.K (fun a => ¬ M a ∧ (st = true → ¬ Z a)) H a vs → Reps g Z M H vs ds → Rep g Z M H (.ref a) (.lst st ds)
  | dct {a : Addr} {kvs : List (L2.Key × V)} {ks : List L2.Key} {vs : List V} {ds : List D} : H a = some (.dK kvs) → kvs.map (·.1) = ks → kvs.map (·.2) = vs → Reps g Z M H vs ds → Rep g Z M H (.ref a) (.dct ks ds)
  | ex0 {a C : Addr} {oe : Obj} {u : HO} {cn : Str} : H a = some (.frz oe u) → XObj oe C none → g.mg cn = some (.ref C) → Rep g Z M H (.ref a) (.ex cn [] [])
  | ex1 {a C dd : Addr} {oe : Obj} {u : HO} {cn : Str} {fs : List (Str × V)} {ns : List Str} {vs : List V} {ds : List D} : H a = some (.frz oe u) → XObj oe C (some dd) → g.mg cn = some (.ref C) → H dd = some (.xd fs) → fs.map (·.1) = ns → fs.map (·.2) = vs → Reps g Z M H vs ds → Rep g Z M H (.ref a) (.ex cn ns ds)
inductive Reps (g : Ge) (Z : Addr → Prop) (M : Addr → Prop) (H : Hp) : List V → List D → Prop
  | nil : Reps g Z M H [] []
  | cons {v : V} {d : D} {vs : List V} {ds : List D} : Rep g Z M H v d → Reps g Z M H vs ds → Reps g Z M H (v :: vs) (d :: ds)
end
mutual
/-- .. for what is owned; as: the addresses that it owns -/
inductive RepO (g : Ge) (Z : Addr → Prop) (M : Addr → Prop) (H : Hp) : V → Sl → List Addr → Prop
  | v {v : V} {d : D} : Rep g Z M H v d → RepO g Z M H v (.v d) []
  | l {a : Addr} {vs : List V} {ds : List D} : H a = some (.lst vs) → Reps g Z M H vs ds → RepO g Z M H (.ref a) (.l ds) [a]
  | t {a : Addr} {vs : List V} {ss : List Sl} {as : List Addr} : SqT g.K H a vs → RepOs g Z M H vs ss as → RepO g Z M H (.ref a) (.t ss) as
  | o {a C dx : Addr} {cn : Str} {fs : List (Str × V)} {ns : List Str} {vs : List V} {ss : List Sl} {as : List Addr} : H a = some (.ins C dx fs) → g.mg cn = some (.ref C) → fs.map (·.1) = ns → fs.map (·.2) = vs → RepOs g Z M H vs ss as → RepO g Z M H (.ref a) (.o cn ns ss) (a :: as)
  | ll {a : Addr} {vs : List V} {ss : List Sl} {as : List Addr} : H a = some (.lst vs) → RepOs g Z M H vs ss as → RepO g Z M H (.ref a) (.ll ss) (a :: as)
  | dt {a : Addr} {kb : List (List Int × Addr × Addr)} {ks : List (List Int)} {ss : List Sl} {as : List Addr} : H a = some (dX a kb) → kb.map (·.1) = ks → Reps g Z M H (kb.map fun x => .ref x.2.1) (kb.map fun x => keyD x.1) → RepOs g Z M H (kb.map fun x => .ref x.2.2) ss as → RepO g Z M H (.ref a) (.dt ks ss) (a :: as)
inductive RepOs (g : Ge) (Z : Addr → Prop) (M : Addr → Prop) (H : Hp) : List V → List Sl → List Addr → Prop
  | nil : RepOs g Z M H [] [] []
  | cons {v : V} {s : Sl} {as : List Addr} {vs : List V} {ss : List Sl} {bs : List Addr} : RepO g Z M H v s as → RepOs g Z M H vs ss bs → RepOs g Z M H (v :: vs) (s :: ss) (as ++ bs)
end
/-- what is owned is a list or an instance -/
def Typed (H : Hp) (a : Addr) : Prop := (∃ vs, H a = some (.lst vs)) ∨ (∃ C dx fs, H a = some (.ins C dx fs)) ∨ ∃ φ, H a = some (.ext φ)
theorem Typed.ne {H : Hp} {a : Addr} (t : Typed H a) : H a ≠ none := by
  rcases t with ⟨_, e⟩ | ⟨_, _, _, e⟩ | ⟨_, e⟩ <;> (rw [e]; simp)
section
variable {g : Ge} {Z : Addr → Prop} {M M' : Addr → Prop} {H H' : Hp}
mutual
theorem RepO.typed : ∀ {v : V} {s : Sl} {as : List Addr}, RepO g Z M H v s as → ∀ a ∈ as, Typed H a
  | _, _, _, .v _, _, h => absurd h (by simp)
  | _, _, _, .l e _, a, h => by
    rcases List.mem_cons.mp h with rfl | h
    · exact .inl ⟨_, e⟩
    · exact absurd h (by simp)
  | _, _, _, .t _ r, a, h => r.typed a h
  | _, _, _, .o e _ _ _ r, a, h => by
    rcases List.mem_cons.mp h with rfl | h
    · exact .inr (.inl ⟨_, _, _, e⟩)
    · exact r.typed a h
  | _, _, _, .ll e r, a, h => by
    rcases List.mem_cons.mp h with rfl | h
    · exact .inl ⟨_, e⟩
    · exact r.typed a h
  | _, _, _, .dt e _ _ r, a, h => by
    rcases List.mem_cons.mp h with rfl | h
    · exact .inr (.inr ⟨_, e⟩)
    · exact r.typed a h
theorem RepOs.typed : ∀ {vs : List V} {ss : List Sl} {as : List Addr}, RepOs g Z M H vs ss as → ∀ a ∈ as, Typed H a
  | _, _, _, .nil, _, h => absurd h (by simp)
  | _, _, _, .cons r rs, a, h => by
    rcases List.mem_append.mp h with h | h
    · exact r.typed a h
    · exact rs.typed a h
end
theorem Typed.notT {a : Addr} {vs : List V} (t : Typed H a) (h : H a = some (.tup vs)) : False := by
  rcases t with ⟨_, e⟩ | ⟨_, _, _, e⟩ | ⟨_, e⟩ <;> (rw [h] at e; cases e)
theorem Typed.notF {a : Addr} {o : Obj} {u : HO} (t : Typed H a) (h : H a = some (.frz o u)) : False := by
  rcases t with ⟨_, e⟩ | ⟨_, _, _, e⟩ | ⟨_, e⟩ <;> (rw [h] at e; cases e)
theorem Typed.notX {a : Addr} {fs : List (Str × V)} (t : Typed H a) (h : H a = some (.xd fs)) : False := by
  rcases t with ⟨_, e⟩ | ⟨_, _, _, e⟩ | ⟨_, e⟩ <;> (rw [h] at e; cases e)
theorem Typed.notD {a : Addr} {kvs : List (L2.Key × V)} (t : Typed H a) (h : H a = some (.dK kvs)) : False := by
  rcases t with ⟨_, e⟩ | ⟨_, _, _, e⟩ | ⟨_, e⟩ <;> (rw [h] at e; cases e)
/-- from H, M to H', M': but at ch all stands -/
structure Moved (ch M M' : Addr → Prop) (H H' : Hp) : Prop where
  keep : ∀ b o, H b = some o → ¬ ch b → H' b = some o
  ty : ∀ a, ch a → Typed H a
  sub : ∀ a, ch a → M a
  new : ∀ a, M' a → M a ∨ H a = none
theorem Moved.refl : Moved (fun _ => False) M M H H := ⟨fun _ _ h _ => h, fun _ h => h.elim, fun _ h => h.elim, fun _ h => .inl h⟩
variable {ch : Addr → Prop}
theorem Moved.tup (m : Moved ch M M' H H') {K : PySem.W.Frag} {a : Addr} {vs : List V} (h : SqT K H a vs) : SqT K H' a vs := by
  rcases h with (h | ⟨o, h⟩) | h
  · exact .inl (.inl (m.keep _ _ h fun z => (m.ty _ z).notT h))
  · exact .inl (.inr ⟨o, m.keep _ _ h fun z => (m.ty _ z).notF h⟩)
  · exact .inr h
theorem Moved.lt (m : Moved ch M M' H H') {K : PySem.W.Frag} {P P' : Addr → Prop} (hp : ∀ a, P a → ¬ M a ∧ (¬ M' a → P' a)) {a : Addr} {vs : List V} (h : LT K P H a vs) : LT K P' H' a vs := by
  rcases h with ⟨h, p⟩ | ⟨o, h⟩ | h
  · obtain ⟨n, q⟩ := hp a p
    refine .inl ⟨m.keep _ _ h fun z => n (m.sub _ z), q fun z => ?_⟩
    rcases m.new a z with z | z
    · exact n z
    · rw [h] at z; cases z
  · exact .inr (.inl ⟨o, m.keep _ _ h fun z => (m.ty _ z).notF h⟩)
  · exact .inr (.inr h)
mutual
theorem Rep.moved (m : Moved ch M M' H H') : ∀ {v : V} {d : D}, Rep g Z M H v d → Rep g Z M' H' v d
  | _, _, .non => .non
  | _, _, .bl b => .bl b
  | _, _, .int i => .int i
  | _, _, .str s => .str s
  | _, _, .ty n => .ty n
  | _, _, .fn h => .fn h
  | _, _, .tup h r => .tup (m.tup h) (r.moved m)
  | _, .lst st _, .lst l r => .lst (m.lt (P := fun a => ¬ M a ∧ (st = true → ¬ Z a)) (P' := fun a => ¬ M' a ∧ (st = true → ¬ Z a)) (fun a p => ⟨p.1, fun z => ⟨z, p.2⟩⟩) l) (r.moved m)
  | _, _, .dct e n w r => .dct (m.keep _ _ e fun z => (m.ty _ z).notD e) n w (r.moved m)
  | _, _, .ex0 e x h => .ex0 (m.keep _ _ e fun z => (m.ty _ z).notF e) x h
  | _, _, .ex1 e x h f n w r => .ex1 (m.keep _ _ e fun z => (m.ty _ z).notF e) x h (m.keep _ _ f fun z => (m.ty _ z).notX f) n w (r.moved m)
theorem Reps.moved (m : Moved ch M M' H H') : ∀ {vs : List V} {ds : List D}, Reps g Z M H vs ds → Reps g Z M' H' vs ds
  | _, _, .nil => .nil
  | _, _, .cons r rs => .cons (r.moved m) (rs.moved m)
end
mutual
theorem RepO.moved (m : Moved ch M M' H H') : ∀ {v : V} {s : Sl} {as : List Addr}, RepO g Z M H v s as → (∀ a ∈ as, ¬ ch a) → RepO g Z M' H' v s as
  | _, _, _, .v r, _ => .v (r.moved m)
  | _, _, _, .l e r, hc => .l (m.keep _ _ e (hc _ (by simp))) (r.moved m)
  | _, _, _, .t h r, hc => .t (m.tup h) (r.moved m hc)
  | _, _, _, .o e h n w r, hc => .o (m.keep _ _ e (hc _ List.mem_cons_self)) h n w (r.moved m fun a h => hc a (List.mem_cons_of_mem _ h))
  | _, _, _, .ll e r, hc => .ll (m.keep _ _ e (hc _ List.mem_cons_self)) (r.moved m fun a h => hc a (List.mem_cons_of_mem _ h))
  | _, _, _, .dt e n w r, hc => .dt (m.keep _ _ e (hc _ List.mem_cons_self)) n (w.moved m) (r.moved m fun a h => hc a (List.mem_cons_of_mem _ h))
theorem RepOs.moved (m : Moved ch M M' H H') : ∀ {vs : List V} {ss : List Sl} {as : List Addr}, RepOs g Z M H vs ss as → (∀ a ∈ as, ¬ ch a) → RepOs g Z M' H' vs ss as
  | _, _, _, .nil, _ => .nil
  | _, _, _, .cons r rs, hc => .cons (r.moved m fun a h => hc a (List.mem_append_left _ h)) (rs.moved m fun a h => hc a (List.mem_append_right _ h))
end
/-- only new objects -/
def Ext (H H' : Hp) : Prop := ∀ b o, H b = some o → H' b = some o
theorem Ext.refl (H : Hp) : Ext H H := fun _ _ h => h
theorem Ext.trans {H1 : Hp} (a : Ext H H1) (b : Ext H1 H') : Ext H H' := fun c o h => b c o (a c o h)
theorem Ext.new {p : Addr} {o : HO} (h : H p = none) : Ext H (upd H p o) := fun a u e => by
  rw [L2.upd_ne (L2.ne_of_none e h)]; exact e
theorem Ext.free (x : Ext H H') {p : Addr} (h : H' p = none) : H p = none := by
  cases e : H p with
  | none => rfl
  | some o => rw [x p o e] at h; cases h
theorem Ext.tup (x : Ext H H') {K : PySem.W.Frag} {a : Addr} {vs : List V} (h : SqT K H a vs) : SqT K H' a vs := by
  rcases h with (h | ⟨o, h⟩) | h
  · exact .inl (.inl (x _ _ h))
  · exact .inl (.inr ⟨o, x _ _ h⟩)
  · exact .inr h
theorem Ext.lst (x : Ext H H') {K : PySem.W.Frag} {a : Addr} {vs : List V} (h : SqL K H a vs) : SqL K H' a vs := by
  rcases h with (h | ⟨o, h⟩) | h
  · exact .inl (.inl (x _ _ h))
  · exact .inl (.inr ⟨o, x _ _ h⟩)
  · exact .inr h
theorem Ext.mv (x : Ext H H') : Moved (fun _ => False) M M H H' := ⟨fun b o e _ => x b o e, fun _ h => h.elim, fun _ h => h.elim, fun _ h => .inl h⟩
theorem Rep.ext (x : Ext H H') {v : V} {d : D} (r : Rep g Z M H v d) : Rep g Z M H' v d := r.moved x.mv
theorem Reps.ext (x : Ext H H') {vs : List V} {ds : List D} (r : Reps g Z M H vs ds) : Reps g Z M H' vs ds := r.moved x.mv
theorem RepO.ext (x : Ext H H') {v : V} {s : Sl} {as : List Addr} (r : RepO g Z M H v s as) : RepO g Z M H' v s as := r.moved x.mv (fun _ _ z => z)
theorem RepOs.ext (x : Ext H H') {vs : List V} {ss : List Sl} {as : List Addr} (r : RepOs g Z M H vs ss as) : RepOs g Z M H' vs ss as := r.moved x.mv (fun _ _ z => z)
/-! other owners: what is asked of a stable list's address stays true -/
mutual
theorem Rep.re {Z' : Addr → Prop} (hM : ∀ a, H a ≠ none → ¬ M a → ¬ M' a) (hZ : ∀ a, H a ≠ none → ¬ M a → ¬ Z a → ¬ Z' a) : ∀ {v : V} {d : D}, Rep g Z M H v d → Rep g Z' M' H v d
  | _, _, .non => .non
  | _, _, .bl b => .bl b
  | _, _, .int i => .int i
  | _, _, .str s => .str s
  | _, _, .ty n => .ty n
  | _, _, .fn h => .fn h
  | _, _, .tup h r => .tup h (r.re hM hZ)
  | _, .lst st _, .lst l r => .lst (LT.imp (P := fun a => ¬ M a ∧ (st = true → ¬ Z a)) (fun a e p => ⟨hM a e p.1, fun z => hZ a e p.1 (p.2 z)⟩) l) (r.re hM hZ)
  | _, _, .dct e n w r => .dct e n w (r.re hM hZ)
  | _, _, .ex0 e x h => .ex0 e x h
  | _, _, .ex1 e x h f n w r => .ex1 e x h f n w (r.re hM hZ)
theorem Reps.re {Z' : Addr → Prop} (hM : ∀ a, H a ≠ none → ¬ M a → ¬ M' a) (hZ : ∀ a, H a ≠ none → ¬ M a → ¬ Z a → ¬ Z' a) : ∀ {vs : List V} {ds : List D}, Reps g Z M H vs ds → Reps g Z' M' H vs ds
  | _, _, .nil => .nil
  | _, _, .cons r rs => .cons (r.re hM hZ) (rs.re hM hZ)
end
mutual
theorem RepO.re {Z' : Addr → Prop} (hM : ∀ a, H a ≠ none → ¬ M a → ¬ M' a) (hZ : ∀ a, H a ≠ none → ¬ M a → ¬ Z a → ¬ Z' a) : ∀ {v : V} {s : Sl} {as : List Addr}, RepO g Z M H v s as → RepO g Z' M' H v s as
  | _, _, _, .v r => .v (r.re hM hZ)
  | _, _, _, .l e r => .l e (r.re hM hZ)
  | _, _, _, .t h r => .t h (r.re hM hZ)
  | _, _, _, .o e h n w r => .o e h n w (r.re hM hZ)
  | _, _, _, .ll e r => .ll e (r.re hM hZ)
  | _, _, _, .dt e n w r => .dt e n (w.re hM hZ) (r.re hM hZ)
theorem RepOs.re {Z' : Addr → Prop} (hM : ∀ a, H a ≠ none → ¬ M a → ¬ M' a) (hZ : ∀ a, H a ≠ none → ¬ M a → ¬ Z a → ¬ Z' a) : ∀ {vs : List V} {ss : List Sl} {as : List Addr}, RepOs g Z M H vs ss as → RepOs g Z' M' H vs ss as
  | _, _, _, .nil => .nil
  | _, _, _, .cons r rs => .cons (r.re hM hZ) (rs.re hM hZ)
end
mutual
/-- what may be handed back: M' may also own what is not there yet, Z' what the callers own -/
theorem Rep.back {Z' : Addr → Prop} (hM : ∀ a, H a ≠ none → ¬ M a → ¬ Z a → ¬ M' a) (hZ : ∀ a, H a ≠ none → ¬ M a → ¬ Z a → ¬ Z' a) : ∀ {v : V} {d : D}, Rep g Z M H v d → retOk d = true → Rep g Z' M' H v d
  | _, _, .non, _ => .non
  | _, _, .bl b, _ => .bl b
  | _, _, .int i, _ => .int i
  | _, _, .str s, _ => .str s
  | _, _, .ty n, _ => .ty n
  | _, _, .fn h, _ => .fn h
  | _, _, .tup h r, k => .tup h (r.back hM hZ (by simpa [retOk] using k))
  | _, .lst st ds, .lst l r, k => by
    have k' : st = true ∧ retOks ds = true := by simpa [retOk] using k
    exact .lst (LT.imp (P := fun a => ¬ M a ∧ (st = true → ¬ Z a)) (fun a e p => ⟨hM a e p.1 (p.2 k'.1), fun z => hZ a e p.1 (p.2 z)⟩) l) (r.back hM hZ k'.2)
  | _, _, .dct e n w r, k => .dct e n w (r.back hM hZ (by simpa [retOk] using k))
  | _, _, .ex0 e x h, _ => .ex0 e x h
  | _, _, .ex1 e x h f n w r, k => .ex1 e x h f n w (r.back hM hZ (by simpa [retOk] using k))
theorem Reps.back {Z' : Addr → Prop} (hM : ∀ a, H a ≠ none → ¬ M a → ¬ Z a → ¬ M' a) (hZ : ∀ a, H a ≠ none → ¬ M a → ¬ Z a → ¬ Z' a) : ∀ {vs : List V} {ds : List D}, Reps g Z M H vs ds → retOks ds = true → Reps g Z' M' H vs ds
  | _, _, .nil, _ => .nil
  | _, d :: ds, .cons r rs, k => by
    have k' : retOk d = true ∧ retOks ds = true := by simpa [retOks] using k
    exact .cons (r.back hM hZ k'.1) (rs.back hM hZ k'.2)
end
mutual
theorem RepO.back {Z' : Addr → Prop} (hM : ∀ a, H a ≠ none → ¬ M a → ¬ Z a → ¬ M' a) (hZ : ∀ a, H a ≠ none → ¬ M a → ¬ Z a → ¬ Z' a) : ∀ {v : V} {s : Sl} {as : List Addr}, RepO g Z M H v s as → retSl s = true → RepO g Z' M' H v s as
  | _, _, _, .v r, k => .v (r.back hM hZ (by simpa [retSl] using k))
  | _, _, _, .l e r, k => .l e (r.back hM hZ (by simpa [retSl] using k))
  | _, _, _, .t h r, k => .t h (r.back hM hZ (by simpa [retSl] using k))
  | _, _, _, .o e h n w r, k => .o e h n w (r.back hM hZ (by simpa [retSl] using k))
  | _, _, _, .ll e r, k => .ll e (r.back hM hZ (by simpa [retSl] using k))
  | _, _, _, .dt e n w r, k => .dt e n (w.back hM hZ (retKeys _)) (r.back hM hZ (by simpa [retSl] using k))
theorem RepOs.back {Z' : Addr → Prop} (hM : ∀ a, H a ≠ none → ¬ M a → ¬ Z a → ¬ M' a) (hZ : ∀ a, H a ≠ none → ¬ M a → ¬ Z a → ¬ Z' a) : ∀ {vs : List V} {ss : List Sl} {as : List Addr}, RepOs g Z M H vs ss as → retSls ss = true → RepOs g Z' M' H vs ss as
  | _, _, _, .nil, _ => .nil
  | _, s :: ss, _, .cons r rs, k => by
    have k' : retSl s = true ∧ retSls ss = true := by simpa [retSls] using k
    exact .cons (r.back hM hZ k'.1) (rs.back hM hZ k'.2)
end
mutual
theorem RepO.freeze : ∀ {v : V} {s : Sl} {as : List Addr} {d : D}, RepO g Z M H v s as → frSl s = some d → (∀ a ∈ as, ¬ M a ∧ ¬ Z a) → Rep g Z M H v d
  | _, _, _, _, .v r, e, _ => by
    rw [frSl] at e; cases e; exact r
  | _, _, _, _, .l h r, e, hs => by
    rw [frSl] at e; cases e; exact .lst (.inl ⟨h, (hs _ (by simp)).1, fun _ => (hs _ (by simp)).2⟩) r
  | _, .t ss, _, _, .t h r, e, hs => by
    rw [frSl] at e
    cases q : frSls ss with
    | none => rw [q] at e; cases e
    | some ds => rw [q] at e; cases e; exact .tup h (r.freeze q hs)
  | _, _, _, _, .o _ _ _ _ _, e, _ => by rw [frSl] at e; cases e
  | _, _, _, _, .dt _ _ _ _, e, _ => by rw [frSl] at e; cases e
  | _, .ll ss, _, _, .ll h r, e, hs => by
    rw [frSl] at e
    cases q : frSls ss with
    | none => rw [q] at e; cases e
    | some ds => rw [q] at e; cases e; exact .lst (.inl ⟨h, (hs _ List.mem_cons_self).1, fun _ => (hs _ List.mem_cons_self).2⟩) (r.freeze q fun a h => hs a (List.mem_cons_of_mem _ h))
theorem RepOs.freeze : ∀ {vs : List V} {ss : List Sl} {as : List Addr} {ds : List D}, RepOs g Z M H vs ss as → frSls ss = some ds → (∀ a ∈ as, ¬ M a ∧ ¬ Z a) → Reps g Z M H vs ds
  | _, _, _, _, .nil, e, _ => by rw [frSls] at e; cases e; exact .nil
  | _, s :: ss, _, _, .cons r rs, e, hs => by
    rw [frSls] at e
    cases q : frSl s with
    | none => rw [q] at e; cases e
    | some d =>
      cases q2 : frSls ss with
      | none => rw [q, q2] at e; cases e
      | some ds =>
        rw [q, q2] at e; cases e
        exact .cons (r.freeze q fun a h => hs a (List.mem_append_left _ h)) (rs.freeze q2 fun a h => hs a (List.mem_append_right _ h))
end
theorem Reps.length : ∀ {vs : List V} {ds : List D}, Reps g Z M H vs ds → vs.length = ds.length
  | _, _, .nil => rfl
  | _, _, .cons _ rs => by rw [List.length_cons, List.length_cons, rs.length]
theorem Reps.get : ∀ {vs : List V} {ds : List D} {i : Nat} {d : D}, Reps g Z M H vs ds → ds[i]? = some d → ∃ v, vs[i]? = some v ∧ Rep g Z M H v d
  | _, _, _, _, .nil, e => by simp at e
  | _, _, 0, _, .cons r _, e => by simp at e; subst e; exact ⟨_, rfl, r⟩
  | _, _, i + 1, d, .cons _ rs, e => by
    obtain ⟨v, h1, h2⟩ := rs.get (i := i) (d := d) (by simpa using e)
    exact ⟨v, by simpa using h1, h2⟩
theorem Reps.append : ∀ {vs : List V} {ds : List D} {vs' : List V} {ds' : List D}, Reps g Z M H vs ds → Reps g Z M H vs' ds' → Reps g Z M H (vs ++ vs') (ds ++ ds')
  | _, _, _, _, .nil, q => q
  | _, _, _, _, .cons r rs, q => .cons r (rs.append q)
theorem Reps.take : ∀ (n : Nat) {vs : List V} {ds : List D}, Reps g Z M H vs ds → Reps g Z M H (vs.take n) (ds.take n)
  | 0, _, _, _ => by rw [List.take_zero, List.take_zero]; exact .nil
  | _ + 1, _, _, .nil => .nil
  | n + 1, _, _, .cons r rs => .cons r (rs.take n)
theorem Reps.drop : ∀ (n : Nat) {vs : List V} {ds : List D}, Reps g Z M H vs ds → Reps g Z M H (vs.drop n) (ds.drop n)
  | 0, _, _, r => r
  | _ + 1, _, _, .nil => .nil
  | n + 1, _, _, .cons _ rs => rs.drop n
theorem Reps.set {v : V} {d : D} (r : Rep g Z M H v d) : ∀ (i : Nat) {vs : List V} {ds : List D}, Reps g Z M H vs ds → Reps g Z M H (vs.set i v) (ds.set i d)
  | _, _, _, .nil => .nil
  | 0, _, _, .cons _ rs => .cons r rs
  | i + 1, _, _, .cons q rs => .cons q (Reps.set r i rs)
end
end VS
set_option Elab.async false
set_option linter.all false
set_option maxRecDepth 100000
set_option maxHeartbeats 4000000
/-! VS2: states, what an expression does to data (EJ). Own work. -/
namespace VS
open PySem PySem.Spec PyProof.Rows
open L2 (V Hp HO upd SqL SqT Rd Cx TE TT TA TS VK XK WX PE PT PA PS PSs)
/-- what an expression yields: shared data; a look at an owned list; something new, owned by nobody yet -/
inductive EV where
  | v (d : D)
  | b (ds : List D)
  | m (s : Sl)
  | p (i : Nat)
/-- an exception: its class's name, its fields -/
structure Exc where
  cn : Str
  ns : List Str
  ds : List D
abbrev Rho := List Sl
inductive RepS (g : Ge) (Z : Addr → Prop) (M : Addr → Prop) (H : Hp) : L2.St → Rho → List Addr → Prop
  | nil : RepS g Z M H [] [] []
  | no {x : Option V} {σ : L2.St} {ρ : Rho} {as : List Addr} : RepS g Z M H σ ρ as → RepS g Z M H (x :: σ) (.no :: ρ) as
  | yes {v : V} {s : Sl} {σ : L2.St} {ρ : Rho} {as bs : List Addr} : RepO g Z M H v s as → RepS g Z M H σ ρ bs → RepS g Z M H (some v :: σ) (s :: ρ) (as ++ bs)
/-- a def's run: K and the globals; Z: what the callers own; the heap at its entry; what it may change of what it was handed -/
structure Fr where
  g : Ge
  Z : Addr → Prop
  H0 : Hp
  io : List Addr
  zd : ∀ a, Z a → H0 a ≠ none
  zi : ∀ a ∈ io, ¬ Z a
  /-- the slots of what it was handed to change; they keep what they hold -/
  mask : List Bool
  s0 : L2.St
/-- the slots hold ρ; M: all that is owned, T: that which is owned by values on their way -/
structure SR (c : Fr) (M : Addr → Prop) (T : List Addr) (σ : L2.St) (H : Hp) (ρ : Rho) : Prop where
  slots : ∃ Ms, RepS c.g c.Z M H σ ρ Ms ∧ (Ms ++ T).Nodup ∧ ∀ a ∈ Ms ++ T, M a
  ty : ∀ a, M a → Typed H a
  src : ∀ a, M a → a ∈ c.io ∨ c.H0 a = none
  keep : ∀ b o, c.H0 b = some o → b ∉ c.io → H b = some o
  pin : ∀ j : Nat, c.mask[j]? = some true → σ[j]? = c.s0[j]?
  ln : σ.length = c.s0.length
structure Post (c : Fr) (p : Bool) (σ : L2.St) (M : Addr → Prop) (T : List Addr) (H : Hp) (M' : Addr → Prop) (T' : List Addr) (H' : Hp) (ρ' : Rho) : Prop where
  sr : SR c M' T' σ H' ρ'
  keep : ∀ b o, H b = some o → (M b → b ∈ T) → H' b = some o
  new : ∀ a, M' a → M a ∨ H a = none
  pu : p = true → Ext H H'
/-- v stands for what was yielded; as: what it owns -/
inductive VRg (g : Ge) (Z : Addr → Prop) (M : Addr → Prop) (H : Hp) : V → EV → List Addr → Prop
  | v {v : V} {d : D} : Rep g Z M H v d → VRg g Z M H v (.v d) []
  | b {a : Addr} {vs : List V} {ds : List D} : H a = some (.lst vs) → Reps g Z M H vs ds → VRg g Z M H (.ref a) (.b ds) []
  | m {v : V} {s : Sl} {as : List Addr} : RepO g Z M H v s as → VRg g Z M H v (.m s) as
abbrev VR (c : Fr) := VRg c.g c.Z
inductive XRg (g : Ge) (Z : Addr → Prop) (M : Addr → Prop) (H : Hp) : Value → Option Addr → Exc → Prop
  | no {C : Addr} {cn : Str} : g.mg cn = some (.ref C) → XRg g Z M H (.ref C) none ⟨cn, [], []⟩
  | yes {C d : Addr} {cn : Str} {fs : List (Str × V)} {ns : List Str} {vs : List V} {ds : List D} : g.mg cn = some (.ref C) → H d = some (.xd fs) → fs.map (·.1) = ns → fs.map (·.2) = vs → Reps g Z M H vs ds → XRg g Z M H (.ref C) (some d) ⟨cn, ns, ds⟩
abbrev XRep (c : Fr) := XRg c.g c.Z
abbrev ES := Rho → (EV → Rho → Prop) → (Exc → Rho → Prop) → Prop
section
variable {c : Fr} {p p1 p2 : Bool} {σ : L2.St} {M M1 M2 M' : Addr → Prop} {T T1 T2 T' : List Addr} {H H1 H2 H' : Hp} {ρ ρ1 ρ2 ρ' : Rho} {W : WX}
theorem SR.drop {as : List Addr} (s : SR c M (as ++ T) σ H ρ) : SR c M T σ H ρ := by
  obtain ⟨Ms, r, nd, al⟩ := s.slots
  refine ⟨⟨Ms, r, ?_, fun a h => al a ?_⟩, s.ty, s.src, s.keep, s.pin, s.ln⟩
  · exact nd.sublist (List.Sublist.append (List.Sublist.refl _) (List.sublist_append_right _ _))
  · rcases List.mem_append.mp h with h | h
    · exact List.mem_append_left _ h
    · exact List.mem_append_right _ (List.mem_append_right _ h)
theorem Post.drop {as : List Addr} (q : Post c p σ M T H M' (as ++ T') H' ρ') : Post c p σ M T H M' T' H' ρ' := ⟨q.sr.drop, q.keep, q.new, q.pu⟩
theorem Post.refl (s : SR c M T σ H ρ) : Post c p σ M T H M T H ρ := ⟨s, fun _ _ h _ => h, fun _ h => .inl h, fun _ => Ext.refl _⟩
theorem Post.trans {σ0 : L2.St} (a : Post c p1 σ0 M T H M1 T1 H1 ρ1) (b : Post c p2 σ M1 T1 H1 M2 T2 H2 ρ2) (ht : ∀ x ∈ T, x ∈ T1) : Post c (p1 && p2) σ M T H M2 T2 H2 ρ2 := by
  have k : ∀ b o, H b = some o → (M b → b ∈ T) → (M1 b → b ∈ T1) := fun x o e h m => by
    rcases a.new x m with z | z
    · exact ht x (h z)
    · rw [e] at z; cases z
  refine ⟨b.sr, fun x o e h => b.keep x o (a.keep x o e h) (k x o e h), fun x m => ?_, fun e => ?_⟩
  · rcases b.new x m with z | z
    · exact a.new x z
    · by_cases hm : M x
      · exact .inl hm
      · refine .inr ?_
        cases q : H x with
        | none => rfl
        | some o => rw [a.keep x o q fun y => absurd y hm] at z; cases z
  · rw [Bool.and_eq_true] at e
    exact (a.pu e.1).trans (b.pu e.2)
theorem Post.weak (a : Post c p σ M T H M' T' H' ρ') : Post c false σ M T H M' T' H' ρ' := ⟨a.sr, a.keep, a.new, fun e => nomatch e⟩
theorem Post.mv {σ' : L2.St} (s : SR c M T σ H ρ) (q : Post c p σ' M T H M' T' H' ρ') : Moved (fun a => M a ∧ a ∉ T) M M' H H' :=
  ⟨fun b o e h => q.keep b o e fun m => Classical.byContradiction fun z => h ⟨m, z⟩, fun a h => s.ty a h.1, fun a h => h.1, q.new⟩
/-- what was yielded before stands: but a look at an owned list only where nothing was changed -/
def okB (p : Bool) : EV → Prop
  | .b _ => p = true
  | _ => True
theorem VR.next {v : V} {x : EV} {as : List Addr} (r : VR c M H v x as) {σ' : L2.St} (s : SR c M T σ H ρ) (q : Post c p σ' M T H M' T' H' ρ') (ht : ∀ a ∈ as, a ∈ T) (ok : okB p x) : VR c M' H' v x as := by
  have m := q.mv s
  cases r with
  | v r => exact .v (r.moved m)
  | b l r => exact .b (q.pu ok _ _ l) (r.moved m)
  | m r => exact .m (r.moved m fun a h z => z.2 (ht a h))
theorem RepS.len {g : Ge} {Z : Addr → Prop} : ∀ {σ : L2.St} {ρ : Rho} {as : List Addr}, RepS g Z M H σ ρ as → σ.length = ρ.length
  | _, _, _, .nil => rfl
  | _, _, _, .no r => by rw [List.length_cons, List.length_cons, r.len]
  | _, _, _, .yes _ r => by rw [List.length_cons, List.length_cons, r.len]
theorem RepS.moved {g : Ge} {Z : Addr → Prop} {ch : Addr → Prop} (m : Moved ch M M' H H') : ∀ {σ : L2.St} {ρ : Rho} {as : List Addr}, RepS g Z M H σ ρ as → (∀ a ∈ as, ¬ ch a) → RepS g Z M' H' σ ρ as
  | _, _, _, .nil, _ => .nil
  | _, _, _, .no r, h => .no (r.moved m h)
  | _, _, _, .yes q r, h => .yes (q.moved m fun a z => h a (List.mem_append_left _ z)) (r.moved m fun a z => h a (List.mem_append_right _ z))
/-- a new object -/
theorem SR.ext (s : SR c M T σ H ρ) (x : Ext H H') : SR c M T σ H' ρ := by
  obtain ⟨Ms, r, nd, al⟩ := s.slots
  refine ⟨⟨Ms, r.moved x.mv (fun _ _ z => z), nd, al⟩, fun a h => ?_, s.src, fun b o e hb => x b o (s.keep b o e hb), s.pin, s.ln⟩
  rcases s.ty a h with ⟨_, e⟩ | ⟨_, _, _, e⟩ | ⟨_, e⟩
  · exact .inl ⟨_, x _ _ e⟩
  · exact .inr (.inl ⟨_, _, _, x _ _ e⟩)
  · exact .inr (.inr ⟨_, x _ _ e⟩)
theorem Post.ext (s : Post c p σ M T H M' T' H' ρ') (x : Ext H' H2) : Post c p σ M T H M' T' H2 ρ' := ⟨s.sr.ext x, fun b o e h => x b o (s.keep b o e h), s.new, fun e => (s.pu e).trans x⟩
end
/-- what e does: f; p: it changes nothing that was there -/
def rdE (c : Fr) (W : WX) (p : Bool) (f : ES) : TE := fun σ H Q => ∃ ρ M T, SR c M T σ H ρ ∧
  f ρ (fun ev ρ' => ∀ v H' M' as, Post c p σ M T H M' (as ++ T) H' ρ' → VR c M' H' v ev as → Q v H')
    (fun x ρ' => ∀ cls dd H' M', Post c false σ M T H M' T H' ρ' → XRep c M' H' cls dd x → W cls dd σ H')
def Mono (f : ES) : Prop := ∀ ρ K K' E E', (∀ x ρ', K x ρ' → K' x ρ') → (∀ x ρ', E x ρ' → E' x ρ') → f ρ K E → f ρ K' E'
structure EJ (X : Cx) (c : Fr) (W : WX) (p : Bool) (e : Expr) (f : ES) : Prop where
  mono : Mono f
  run : PE X e (rdE c W p f)
theorem PE.imp {X : Cx} {e : Expr} {t t' : TE} (h : PE X e t) (i : ∀ σ H Q, t' σ H Q → t σ H Q) : PE X e t' := ⟨fun pins s σ H Q I q => h.run pins s σ H Q I (i σ H Q q)⟩
/-- two in a row -/
def bin (p2 : Bool) (f g : ES) (R : EV → EV → (EV → Rho → Prop) → (Exc → Rho → Prop) → Rho → Prop) : ES := fun ρ K E => f ρ (fun x ρ1 => g ρ1 (fun y ρ2 => okB p2 x ∧ R x y K E ρ2) E) E
theorem Mono.bin {p2 : Bool} {f g : ES} {R : EV → EV → (EV → Rho → Prop) → (Exc → Rho → Prop) → Rho → Prop} (hf : Mono f) (hg : Mono g) (hR : ∀ x y ρ K K' E E', (∀ x ρ', K x ρ' → K' x ρ') → (∀ x ρ', E x ρ' → E' x ρ') → R x y K E ρ → R x y K' E' ρ) :
    Mono (bin p2 f g R) := fun ρ K K' E E' hk he => hf _ _ _ _ _ (fun x ρ1 h => hg _ _ _ _ _ (fun y ρ2 ⟨o, q⟩ => ⟨o, hR _ _ _ _ _ _ _ hk he q⟩) he h) he
section
variable {X : Cx} {c : Fr} {W : WX} {p p1 p2 : Bool} {a b : Expr} {f g : ES} {R : EV → EV → (EV → Rho → Prop) → (Exc → Rho → Prop) → Rho → Prop} {Tm : V → V → Hp → VK → Prop}
theorem seq2 (hf : Mono f) (hg : Mono g)
    (hR : ∀ σ M T H M2 H2 ρ2 as1 as2 v u x y Q E, Post c (p1 && p2) σ M T H M2 (as2 ++ (as1 ++ T)) H2 ρ2 → VR c M2 H2 v x as1 → VR c M2 H2 u y as2 →
      R x y (fun ev ρ' => ∀ v H' M' as, Post c (p1 && p2) σ M T H M' (as ++ T) H' ρ' → VR c M' H' v ev as → Q v H') E ρ2 → Tm v u H2 Q) :
    ∀ σ H Q, rdE c W (p1 && p2) (bin p2 f g R) σ H Q → rdE c W p1 f σ H (fun v H1 => rdE c W p2 g σ H1 (fun u H2 => Tm v u H2 Q)) := by
  rintro σ H Q ⟨ρ, M, T, s, h⟩
  refine ⟨ρ, M, T, s, hf _ _ _ _ _ (fun x ρ1 h v H1 M1 as1 q1 r1 => ?_) (fun _ _ h => h) h⟩
  have ht : ∀ x ∈ T, x ∈ as1 ++ T := fun x hx => List.mem_append_right _ hx
  have k1 : ∀ y ρ2, (okB p2 x ∧ R x y (fun ev ρ' => ∀ v H' M' as, Post c (p1 && p2) σ M T H M' (as ++ T) H' ρ' → VR c M' H' v ev as → Q v H')
      (fun x ρ' => ∀ cls dd H' M', Post c false σ M T H M' T H' ρ' → XRep c M' H' cls dd x → W cls dd σ H') ρ2) →
      ∀ u H2 M2 as2, Post c p2 σ M1 (as1 ++ T) H1 M2 (as2 ++ (as1 ++ T)) H2 ρ2 → VR c M2 H2 u y as2 → Tm v u H2 Q := fun y ρ2 k u H2 M2 as2 q2 r2 =>
    hR σ M T H M2 H2 ρ2 as1 as2 v u x y Q _ (q1.trans q2 ht) (r1.next q1.sr q2 (fun a ha => List.mem_append_left _ ha) k.1) r2 k.2
  exact ⟨ρ1, M1, as1 ++ T, q1.sr, hg _ _ _ _ _ k1 (fun x ρ2 h cls dd H2 M2 q2 r2 => h cls dd H2 M2 (q1.trans q2 ht).weak.drop r2) h⟩
/-- two operands, then an operation on values -/
theorem ej_bin {e : Expr} (ha : EJ X c W p1 a f) (hb : EJ X c W p2 b g) (ht : PE X a (rdE c W p1 f) → PE X b (rdE c W p2 g) → PE X e (fun σ H Q => rdE c W p1 f σ H (fun v H1 => rdE c W p2 g σ H1 (fun u H2 => Tm v u H2 Q))))
    (hM : ∀ x y ρ K K' E E', (∀ x ρ', K x ρ' → K' x ρ') → (∀ x ρ', E x ρ' → E' x ρ') → R x y K E ρ → R x y K' E' ρ)
    (hR : ∀ σ M T H M2 H2 ρ2 as1 as2 v u x y Q E, Post c (p1 && p2) σ M T H M2 (as2 ++ (as1 ++ T)) H2 ρ2 → VR c M2 H2 v x as1 → VR c M2 H2 u y as2 →
      R x y (fun ev ρ' => ∀ v H' M' as, Post c (p1 && p2) σ M T H M' (as ++ T) H' ρ' → VR c M' H' v ev as → Q v H') E ρ2 → Tm v u H2 Q) :
    EJ X c W (p1 && p2) e (bin p2 f g R) := ⟨Mono.bin ha.mono hb.mono hM, PE.imp (ht ha.run hb.run) (seq2 ha.mono hb.mono hR)⟩
end
/-! ### constants and names -/
def cE (d : D) : ES := fun ρ K _ => K (.v d) ρ
/-- a name that holds shared data -/
def vE (i : Nat) : ES := fun ρ K _ => match ρ[i]? with
  | some (.v d) => K (.v d) ρ
  | _ => False
/-- a look at an owned list -/
def bE (i : Nat) : ES := fun ρ K _ => match ρ[i]? with
  | some (.l ds) => K (.b ds) ρ
  | _ => False
/-- an owned thing that is owned no more: from here on nobody changes it -/
def fE (i : Nat) : ES := fun ρ K _ => match ρ[i]? with
  | some s => (match frSl s with
    | some d => K (.v d) (ρ.set i (.v d))
    | none => False)
  | _ => False
/-- an owned thing handed on: the name is empty from here on -/
def mE (i : Nat) : ES := fun ρ K _ => match ρ[i]? with
  | some .no => False
  | some s => K (.m s) (ρ.set i .no)
  | _ => False
section
variable {X : Cx} {c : Fr} {W : WX} {M M' : Addr → Prop} {T : List Addr} {σ : L2.St} {H H' : Hp} {ρ : Rho}
theorem RepS.get {g : Ge} {Z : Addr → Prop} : ∀ {σ : L2.St} {ρ : Rho} {Ms : List Addr} {i : Nat} {s : Sl}, RepS g Z M H σ ρ Ms → ρ[i]? = some s → s ≠ .no → ∃ v as, σ[i]? = some (some v) ∧ RepO g Z M H v s as ∧ ∀ a ∈ as, a ∈ Ms
  | _, _, _, _, _, .nil, e, _ => by simp at e
  | _, _, _, 0, _, .no _, e, n => by simp at e; exact absurd e.symm n
  | _, _, _, 0, _, .yes q _, e, _ => by simp at e; subst e; exact ⟨_, _, rfl, q, fun a h => List.mem_append_left _ h⟩
  | _, _, _, i + 1, s, .no r, e, n => by
    obtain ⟨v, as, h1, h2, h3⟩ := r.get (i := i) (s := s) (by simpa using e) n
    exact ⟨v, as, by simpa using h1, h2, h3⟩
  | _, _, _, i + 1, s, .yes _ r, e, n => by
    obtain ⟨v, as, h1, h2, h3⟩ := r.get (i := i) (s := s) (by simpa using e) n
    exact ⟨v, as, by simpa using h1, h2, fun a h => List.mem_append_right _ (h3 a h)⟩
theorem Post.same (s : SR c M T σ H ρ) {p : Bool} : Post c p σ M T H M ([] ++ T) H ρ := Post.refl s
theorem ej_int {i : Int} {j pos} : EJ X c W true (.Constant (.int i) j pos) (cE (.int i)) := ⟨fun ρ K K' E E' hk _ h => hk _ _ h, PE.imp L2.pe_int fun σ H Q ⟨ρ, M, T, s, h⟩ => h _ H M [] (Post.same s) (.v (.int i))⟩
theorem ej_bl {b : Bool} {j pos} : EJ X c W true (.Constant (.bool b) j pos) (cE (.bl b)) := ⟨fun ρ K K' E E' hk _ h => hk _ _ h, PE.imp L2.pe_bl fun σ H Q ⟨ρ, M, T, s, h⟩ => h _ H M [] (Post.same s) (.v (.bl b))⟩
theorem SR.read (s : SR c M T σ H ρ) {i : Nat} {x : Sl} (e : ρ[i]? = some x) (n : x ≠ .no) : ∃ v as, σ[i]? = some (some v) ∧ RepO c.g c.Z M H v x as ∧ (∀ a ∈ as, M a ∧ a ∉ T) := by
  obtain ⟨Ms, r, nd, al⟩ := s.slots
  obtain ⟨v, as, h1, h2, h3⟩ := r.get e n
  exact ⟨v, as, h1, h2, fun a h => ⟨al a (List.mem_append_left _ (h3 a h)), fun z => (List.nodup_append.mp nd).2.2 a (h3 a h) a z rfl⟩⟩
theorem ej_v {i : Nat} {e : Expr} (he : PE X e (L2.tVar i)) : EJ X c W true e (vE i) := by
  refine ⟨fun ρ K K' E E' hk _ h => ?_, PE.imp he fun σ H Q ⟨ρ, M, T, s, h⟩ => ?_⟩
  · unfold vE at h ⊢
    split at h
    · exact hk _ _ h
    · exact h
  · unfold vE at h
    split at h
    · rename_i d e
      obtain ⟨v, as, h1, h2, _⟩ := s.read e (by simp)
      cases h2 with
      | v r => exact ⟨v, h1, h v H M [] (Post.same s) (.v r)⟩
    · exact h.elim
/-- a slot gets something else: what it owned is owned by nobody, what comes is owned by it -/
theorem RepS.put {g : Ge} {Z : Addr → Prop} {v : V} {s : Sl} {as : List Addr} (q : RepO g Z M H v s as) : ∀ {σ : L2.St} {ρ : Rho} {Ms : List Addr} {i : Nat}, RepS g Z M H σ ρ Ms → i < ρ.length →
    ∃ Ms', RepS g Z M H (σ.set i (some v)) (ρ.set i s) Ms' ∧ (∀ a ∈ Ms', a ∈ Ms ∨ a ∈ as) ∧ (Ms.Nodup → as.Nodup → (∀ a ∈ as, a ∉ Ms) → Ms'.Nodup)
  | _, _, _, _, .nil, h => absurd h (by simp)
  | _ :: σ, _ :: ρ, Ms, 0, .no r, h => ⟨as ++ Ms, .yes q r, fun a h => (List.mem_append.mp h).symm, fun n1 n2 n3 => List.nodup_append.mpr ⟨n2, n1, fun a ha b hb e => n3 a ha (e ▸ hb)⟩⟩
  | some u :: σ, _ :: ρ, _, 0, .yes (as := bs) (bs := cs) _ r, h => ⟨as ++ cs, .yes q r, fun a h => by
      rcases List.mem_append.mp h with h | h
      · exact .inr h
      · exact .inl (List.mem_append_right _ h), fun n1 n2 n3 => List.nodup_append.mpr ⟨n2, (List.nodup_append.mp n1).2.1, fun a ha b hb e => n3 a ha (e ▸ List.mem_append_right _ hb)⟩⟩
  | _ :: σ, _ :: ρ, Ms, i + 1, .no r, h => by
    obtain ⟨Ms', h1, h2, h3⟩ := r.put q (i := i) (by simpa using h)
    exact ⟨Ms', .no h1, h2, h3⟩
  | some u :: σ, s' :: ρ, _, i + 1, .yes (as := bs) (bs := cs) o r, h => by
    obtain ⟨Ms', h1, h2, h3⟩ := r.put q (i := i) (by simpa using h)
    refine ⟨bs ++ Ms', .yes o h1, fun a h => ?_, fun n1 n2 n3 => ?_⟩
    · rcases List.mem_append.mp h with h | h
      · exact .inl (List.mem_append_left _ h)
      · rcases h2 a h with h | h
        · exact .inl (List.mem_append_right _ h)
        · exact .inr h
    · obtain ⟨m1, m2, m3⟩ := List.nodup_append.mp n1
      refine List.nodup_append.mpr ⟨m1, h3 m2 n2 fun a ha z => n3 a ha (List.mem_append_right _ z), fun a ha b hb e => ?_⟩
      subst e
      rcases h2 a hb with z | z
      · exact m3 a ha a z rfl
      · exact n3 a z (List.mem_append_left _ ha)
/-- a slot is emptied: what it owned -/
theorem RepS.out {g : Ge} {Z : Addr → Prop} : ∀ {σ : L2.St} {ρ : Rho} {Ms : List Addr} {i : Nat} {s : Sl}, RepS g Z M H σ ρ Ms → ρ[i]? = some s → s ≠ .no →
    ∃ v as Ms', σ[i]? = some (some v) ∧ RepO g Z M H v s as ∧ RepS g Z M H σ (ρ.set i .no) Ms' ∧ (∀ a ∈ as, a ∈ Ms) ∧ (∀ a ∈ Ms', a ∈ Ms) ∧ (Ms.Nodup → as.Nodup ∧ Ms'.Nodup ∧ ∀ a ∈ as, a ∉ Ms')
  | _, _, _, _, _, .nil, e, _ => by simp at e
  | _, _, _, 0, _, .no _, e, n => by simp at e; exact absurd e.symm n
  | _, _, _, 0, _, .yes (as := bs) (bs := cs) q r, e, _ => by
    simp at e
    subst e
    exact ⟨_, bs, cs, rfl, q, .no r, fun a h => List.mem_append_left _ h, fun a h => List.mem_append_right _ h, fun n => ⟨(List.nodup_append.mp n).1, (List.nodup_append.mp n).2.1, fun a h z => (List.nodup_append.mp n).2.2 a h a z rfl⟩⟩
  | _, _, _, i + 1, s, .no r, e, n => by
    obtain ⟨v, as, Ms', h1, h2, h3, h4, h5, h6⟩ := r.out (i := i) (s := s) (by simpa using e) n
    exact ⟨v, as, Ms', by simpa using h1, h2, .no h3, h4, h5, h6⟩
  | _, _, _, i + 1, s, .yes (as := bs) (bs := cs) q r, e, n => by
    obtain ⟨v, as, Ms', h1, h2, h3, h4, h5, h6⟩ := r.out (i := i) (s := s) (by simpa using e) n
    refine ⟨v, as, bs ++ Ms', by simpa using h1, h2, .yes q h3, fun a h => List.mem_append_right _ (h4 a h), fun a h => ?_, fun nd => ?_⟩
    · rcases List.mem_append.mp h with h | h
      · exact List.mem_append_left _ h
      · exact List.mem_append_right _ (h5 a h)
    · obtain ⟨m1, m2, m3⟩ := List.nodup_append.mp nd
      obtain ⟨k1, k2, k3⟩ := h6 m2
      refine ⟨k1, List.nodup_append.mpr ⟨m1, k2, fun a ha b hb e => m3 a ha b (h5 b hb) e⟩, fun a ha z => ?_⟩
      rcases List.mem_append.mp z with z | z
      · exact m3 a z a (h4 a ha) rfl
      · exact k3 a ha z
end
end VS
set_option Elab.async false
set_option linter.all false
set_option maxRecDepth 100000
set_option maxHeartbeats 4000000
/-! VS3: names handed on, tests, argument lists, displays, operators. Own work. -/
namespace VS
open PySem PySem.Spec PyProof.Rows
open L2 (V Hp HO upd SqL SqT Rd Cx TE TT TA TS VK XK WX PE PT PA PS PSs)
section
variable {X : Cx} {c : Fr} {W : WX} {M M' : Addr → Prop} {T T' : List Addr} {σ : L2.St} {H H' : Hp} {ρ ρ' : Rho} {p p1 p2 : Bool}
theorem RepS.re {g : Ge} {Z Z' : Addr → Prop} (hM : ∀ a, H a ≠ none → ¬ M a → ¬ M' a) (hZ : ∀ a, H a ≠ none → ¬ M a → ¬ Z a → ¬ Z' a) : ∀ {σ : L2.St} {ρ : Rho} {as : List Addr}, RepS g Z M H σ ρ as → RepS g Z' M' H σ ρ as
  | _, _, _, .nil => .nil
  | _, _, _, .no r => .no (r.re hM hZ)
  | _, _, _, .yes q r => .yes (q.re hM hZ) (r.re hM hZ)
theorem set_get {α : Type} {l : List α} {i : Nat} {x : α} (h : l[i]? = some x) : l.set i x = l := by
  obtain ⟨hi, e⟩ := List.getElem?_eq_some_iff.mp h
  rw [← e]; exact List.set_getElem_self hi
end
/-! ### tests -/
abbrev BS := Rho → (Bool → Rho → Prop) → (Exc → Rho → Prop) → Prop
def MonoB (f : BS) : Prop := ∀ ρ K K' E E', (∀ x ρ', K x ρ' → K' x ρ') → (∀ x ρ', E x ρ' → E' x ρ') → f ρ K E → f ρ K' E'
def rdT (c : Fr) (W : WX) (p : Bool) (f : BS) : TT := fun σ H Q => ∃ ρ M T, SR c M T σ H ρ ∧
  f ρ (fun b ρ' => ∀ H' M', Post c p σ M T H M' T H' ρ' → Q b H')
    (fun x ρ' => ∀ cls dd H' M', Post c false σ M T H M' T H' ρ' → XRep c M' H' cls dd x → W cls dd σ H')
structure TJ (X : Cx) (c : Fr) (W : WX) (p : Bool) (e : Expr) (f : BS) : Prop where
  mono : MonoB f
  run : PT X e (rdT c W p f)
structure WJ (X : Cx) (c : Fr) (W : WX) (p : Bool) (e : Expr) (f : BS) : Prop where
  mono : MonoB f
  run : L2.PW X e (rdT c W p f)
theorem PT.imp {X : Cx} {e : Expr} {t t' : TT} (h : PT X e t) (i : ∀ σ H Q, t' σ H Q → t σ H Q) : PT X e t' := ⟨fun pins s σ H Q I q => h.run pins s σ H Q I (i σ H Q q)⟩
theorem PW.imp {X : Cx} {e : Expr} {t t' : TT} (h : L2.PW X e t) (i : ∀ σ H Q, t' σ H Q → t σ H Q) : L2.PW X e t' := ⟨fun wh pins s σ H Q I q => h.run wh pins s σ H Q I (i σ H Q q)⟩
section
variable {X : Cx} {c : Fr} {W : WX} {p p1 p2 : Bool} {a b : Expr} {f g : BS}
theorem WJ.tj {e : Expr} (h : WJ X c W p e f) : TJ X c W p e f := ⟨h.mono, h.run.pt⟩
/-- a value that is a bool, as a test -/
def bT (f : ES) : BS := fun ρ K E => f ρ (fun x ρ' => match x with
  | .v (.bl b) => K b ρ'
  | _ => False) E
theorem MonoB.bT {f : ES} (hf : Mono f) : MonoB (bT f) := fun ρ K K' E E' hk he h => hf _ _ _ _ _ (fun x ρ' h => by
  split at h
  · exact hk _ _ h
  · exact h) he h
theorem bT_run {f : ES} (hf : Mono f) : ∀ σ H Q, rdT c W p (bT f) σ H Q → rdE c W p f σ H (fun v H1 => ∃ k, v = .bl k ∧ Q k H1) := by
  rintro σ H Q ⟨ρ, M, T, s, h⟩
  refine ⟨ρ, M, T, s, hf _ _ _ _ _ (fun x ρ' h v H' M' as q r => ?_) (fun _ _ h => h) h⟩
  split at h
  · rename_i b
    cases r with
    | v r => cases r; exact ⟨b, rfl, h H' M' q.drop⟩
  · exact h.elim
theorem tj_of {f : ES} {e : Expr} (h : EJ X c W p e f) (ht : PE X e (rdE c W p f) → PT X e (L2.tTest (rdE c W p f))) : TJ X c W p e (bT f) := ⟨MonoB.bT h.mono, PT.imp (ht h.run) (bT_run h.mono)⟩
/-- any expression whose value is a bool: a call, a name .. (not and, or, not, a comparison) -/
theorem tj_val {f : ES} {e : Expr} (h : EJ X c W p e f) (he : ∀ whole, isTrue e X.env whole = (do let v ← whole; standAt e.pos; holding [v] (truthy v)) := by intro _; rfl) : TJ X c W p e (bT f) :=
  tj_of h fun q => L2.pt_val q he
def andT (f g : BS) : BS := fun ρ K E => f ρ (fun b ρ1 => if b = true then g ρ1 K E else K false ρ1) E
def orT (f g : BS) : BS := fun ρ K E => f ρ (fun b ρ1 => if b = true then K true ρ1 else g ρ1 K E) E
def notT (f : BS) : BS := fun ρ K E => f ρ (fun b ρ1 => K (!b) ρ1) E
theorem orT_mono (hf : MonoB f) (hg : MonoB g) : MonoB (orT f g) := fun ρ K K' E E' hk he h => hf _ _ _ _ _ (fun b ρ1 h => by
  split at h
  · rename_i hb; rw [if_pos hb]; exact hk _ _ h
  · rename_i hb; rw [if_neg hb]; exact hg _ _ _ _ _ hk he h) he h
theorem Post.left {σ : L2.St} {M M' : Addr → Prop} {T T' : List Addr} {H H' : Hp} {ρ' : Rho} (q : Post c p1 σ M T H M' T' H' ρ') : Post c (p1 && p2) σ M T H M' T' H' ρ' :=
  ⟨q.sr, q.keep, q.new, fun e => q.pu (by rw [Bool.and_eq_true] at e; exact e.1)⟩
theorem wj_or1 {pos : Pos} (h : TJ X c W p a f) : WJ X c W p (.BoolOp .Or [a] pos) f := ⟨h.mono, L2.pw_or1 h.run⟩
theorem seqT (hf : MonoB f) (hg : MonoB g) (tf : Bool) (σ : L2.St) (H : Hp) (Q : Bool → Hp → Prop)
    (h : rdT c W (p1 && p2) (if tf then andT f g else orT f g) σ H Q) : rdT c W p1 f σ H (fun b H1 => if b = tf then rdT c W p2 g σ H1 Q else Q (!tf) H1) := by
  obtain ⟨ρ, M, T, s, h⟩ := h
  refine ⟨ρ, M, T, s, ?_⟩
  have go : ∀ (b : Bool) (ρ1 : Rho) (H1 : Hp) (M1 : Addr → Prop), Post c p1 σ M T H M1 T H1 ρ1 → g ρ1 (fun b ρ' => ∀ H' M', Post c (p1 && p2) σ M T H M' T H' ρ' → Q b H')
    (fun x ρ' => ∀ cls dd H' M', Post c false σ M T H M' T H' ρ' → XRep c M' H' cls dd x → W cls dd σ H') → rdT c W p2 g σ H1 Q := fun b ρ1 H1 M1 q h =>
    ⟨ρ1, M1, T, q.sr, hg _ _ _ _ _ (fun b2 ρ2 k H2 M2 q2 => k H2 M2 (q.trans q2 fun _ z => z)) (fun x ρ2 k cls dd H2 M2 q2 r2 => k cls dd H2 M2 (q.trans q2 fun _ z => z).weak r2) h⟩
  cases tf with
  | true =>
    refine hf _ _ _ _ _ (fun b ρ1 h H1 M1 q => ?_) (fun _ _ h => h) h
    cases b with
    | true => exact go true ρ1 H1 M1 q h
    | false => exact h H1 M1 q.left
  | false =>
    refine hf _ _ _ _ _ (fun b ρ1 h H1 M1 q => ?_) (fun _ _ h => h) h
    cases b with
    | true => exact h H1 M1 q.left
    | false => exact go false ρ1 H1 M1 q h
theorem wj_or {rest : List Expr} {pos : Pos} (ha : TJ X c W p1 a f) (hb : WJ X c W p2 (.BoolOp .Or (b :: rest) pos) g) : WJ X c W (p1 && p2) (.BoolOp .Or (a :: b :: rest) pos) (orT f g) := by
  refine ⟨orT_mono ha.mono hb.mono, PW.imp (L2.pw_or ha.run hb.run) fun σ H Q h => ?_⟩
  obtain ⟨ρ, M, T, s, k⟩ := seqT ha.mono hb.mono false σ H Q h
  refine ⟨ρ, M, T, s, ha.mono _ _ _ _ _ (fun b ρ1 k H1 M1 q => ?_) (fun _ _ h => h) k⟩
  have k := k H1 M1 q
  cases b with
  | true => exact k
  | false => exact k
theorem tj_not {pos : Pos} (h : TJ X c W p a f) : TJ X c W p (.UnaryOp .Not a pos) (notT f) := by
  refine ⟨fun ρ K K' E E' hk he q => h.mono _ _ _ _ _ (fun b ρ1 => hk _ _) he q, PT.imp (L2.pt_not h.run) fun σ H Q q => q⟩
end
/-! ### argument lists -/
inductive VRs (c : Fr) (M : Addr → Prop) (H : Hp) : List V → List EV → List Addr → Prop
  | nil : VRs c M H [] [] []
  | cons {v : V} {x : EV} {as : List Addr} {vs : List V} {xs : List EV} {bs : List Addr} : VR c M H v x as → VRs c M H vs xs bs → VRs c M H (v :: vs) (x :: xs) (bs ++ as)
abbrev AS := Rho → (List EV → Rho → Prop) → (Exc → Rho → Prop) → Prop
def MonoA (f : AS) : Prop := ∀ ρ K K' E E', (∀ x ρ', K x ρ' → K' x ρ') → (∀ x ρ', E x ρ' → E' x ρ') → f ρ K E → f ρ K' E'
def rdA (c : Fr) (W : WX) (p : Bool) (f : AS) : TA := fun σ H Q => ∃ ρ M T, SR c M T σ H ρ ∧
  f ρ (fun xs ρ' => ∀ vs H' M' as, Post c p σ M T H M' (as ++ T) H' ρ' → VRs c M' H' vs xs as → Q vs H')
    (fun x ρ' => ∀ cls dd H' M', Post c false σ M T H M' T H' ρ' → XRep c M' H' cls dd x → W cls dd σ H')
structure AJ (X : Cx) (c : Fr) (W : WX) (p : Bool) (es : List Expr) (f : AS) : Prop where
  mono : MonoA f
  run : PA X es (rdA c W p f)
theorem PA.imp {X : Cx} {es : List Expr} {t t' : TA} (h : PA X es t) (i : ∀ σ H Q, t' σ H Q → t σ H Q) : PA X es t' := ⟨fun pos pins s σ H Q I q => h.run pos pins s σ H Q I (i σ H Q q)⟩
def nilA : AS := fun ρ K _ => K [] ρ
def consA (p2 : Bool) (f : ES) (g : AS) : AS := fun ρ K E => f ρ (fun x ρ1 => g ρ1 (fun xs ρ2 => okB p2 x ∧ K (x :: xs) ρ2) E) E
section
variable {X : Cx} {c : Fr} {W : WX} {p p1 p2 : Bool} {e : Expr} {es : List Expr} {f : ES} {g : AS}
theorem aj_nil : AJ X c W true [] nilA := ⟨fun ρ K K' E E' hk _ h => hk _ _ h, PA.imp L2.pa_nil fun σ H Q ⟨ρ, M, T, s, h⟩ => h [] H M [] (Post.same s) .nil⟩
theorem aj_cons (he : EJ X c W p1 e f) (hr : AJ X c W p2 es g) (hs : starEach (e :: es) X.env = (false, eval e X.env) :: starEach es X.env := by rfl) : AJ X c W (p1 && p2) (e :: es) (consA p2 f g) := by
  refine ⟨fun ρ K K' E E' hk hx h => he.mono _ _ _ _ _ (fun x ρ1 h => hr.mono _ _ _ _ _ (fun xs ρ2 h => ⟨h.1, hk _ _ h.2⟩) hx h) hx h, PA.imp (L2.pa_cons he.run hr.run hs) ?_⟩
  rintro σ H Q ⟨ρ, M, T, s, h⟩
  refine ⟨ρ, M, T, s, he.mono _ _ _ _ _ (fun x ρ1 h v H1 M1 as1 q1 r1 => ?_) (fun _ _ h => h) h⟩
  have ht : ∀ x ∈ T, x ∈ as1 ++ T := fun x hx => List.mem_append_right _ hx
  have k1 : ∀ xs ρ2, (okB p2 x ∧ ∀ vs H' M' as, Post c (p1 && p2) σ M T H M' (as ++ T) H' ρ2 → VRs c M' H' vs (x :: xs) as → Q vs H') →
      ∀ us H2 M2 as2, Post c p2 σ M1 (as1 ++ T) H1 M2 (as2 ++ (as1 ++ T)) H2 ρ2 → VRs c M2 H2 us xs as2 → Q (v :: us) H2 := fun xs ρ2 k us H2 M2 as2 q2 r2 => by
    refine k.2 _ H2 M2 (as2 ++ as1) ?_ (.cons (r1.next q1.sr q2 (fun a ha => List.mem_append_left _ ha) k.1) r2)
    rw [List.append_assoc]
    exact q1.trans q2 ht
  exact ⟨ρ1, M1, as1 ++ T, q1.sr, hr.mono _ _ _ _ _ k1 (fun x ρ2 h cls dd H2 M2 q2 r2 => h cls dd H2 M2 (q1.trans q2 ht).weak.drop r2) h⟩
end
/-! ### tuples, lists -/
/-- shared, each of them -/
def allV : List EV → Option (List D)
  | [] => some []
  | .v d :: xs => (allV xs).map (d :: ·)
  | .b _ :: _ => none
  | .m _ :: _ => none
  | .p _ :: _ => none
/-- owned, each of them -/
def allM : List EV → Option (List Sl)
  | [] => some []
  | .v d :: xs => (allM xs).map (.v d :: ·)
  | .m s :: xs => (allM xs).map (s :: ·)
  | .b _ :: _ => none
  | .p _ :: _ => none
theorem VRs.allV {c : Fr} {M : Addr → Prop} {H : Hp} : ∀ {vs : List V} {xs : List EV} {as : List Addr} {ds : List D}, VRs c M H vs xs as → allV xs = some ds → Reps c.g c.Z M H vs ds ∧ as = []
  | _, _, _, _, .nil, e => by rw [VS.allV] at e; cases e; exact ⟨.nil, rfl⟩
  | _, .v d :: xs, _, _, .cons r rs, e => by
    rw [VS.allV] at e
    cases q : VS.allV xs with
    | none => rw [q] at e; cases e
    | some ds =>
      rw [q] at e; cases e
      obtain ⟨h1, h2⟩ := rs.allV q
      cases r with
      | v r => exact ⟨.cons r h1, by rw [h2]; rfl⟩
  | _, .b _ :: _, _, _, _, e => by simp [VS.allV] at e
  | _, .m _ :: _, _, _, _, e => by simp [VS.allV] at e
  | _, .p _ :: _, _, _, _, e => by simp [VS.allV] at e
theorem RepOs.perm {g : Ge} {Z M : Addr → Prop} {H : Hp} {vs : List V} {ss : List Sl} {as : List Addr} (r : RepOs g Z M H vs ss as) : RepOs g Z M H vs ss as := r
theorem VRs.allM {c : Fr} {M : Addr → Prop} {H : Hp} : ∀ {vs : List V} {xs : List EV} {as : List Addr} {ss : List Sl}, VRs c M H vs xs as → allM xs = some ss → ∃ bs, RepOs c.g c.Z M H vs ss bs ∧ (∀ a, a ∈ bs ↔ a ∈ as) ∧ (as.Nodup → bs.Nodup)
  | _, _, _, _, .nil, e => by rw [VS.allM] at e; cases e; exact ⟨[], .nil, fun _ => Iff.rfl, fun h => h⟩
  | _, .v d :: xs, _, _, .cons (as := as) (bs := bs) r rs, e => by
    rw [VS.allM] at e
    cases q : VS.allM xs with
    | none => rw [q] at e; cases e
    | some ss =>
      rw [q] at e; cases e
      obtain ⟨cs, h1, h2, h3⟩ := rs.allM q
      cases r with
      | v r => exact ⟨[] ++ cs, .cons (.v r) h1, fun a => by simpa using h2 a, fun h => by simpa using h3 (by simpa using h)⟩
  | _, .m s :: xs, _, _, .cons (as := as) (bs := bs) r rs, e => by
    rw [VS.allM] at e
    cases q : VS.allM xs with
    | none => rw [q] at e; cases e
    | some ss =>
      rw [q] at e; cases e
      obtain ⟨cs, h1, h2, h3⟩ := rs.allM q
      cases r with
      | m r =>
        refine ⟨as ++ cs, .cons r h1, fun a => ?_, fun h => ?_⟩
        · rw [List.mem_append, List.mem_append, h2 a]; exact Or.comm
        · obtain ⟨n1, n2, n3⟩ := List.nodup_append.mp h
          exact List.nodup_append.mpr ⟨n2, h3 n1, fun a ha b hb e => n3 b ((h2 b).mp hb) a ha e.symm⟩
  | _, .b _ :: _, _, _, _, e => by simp [VS.allM] at e
  | _, .p _ :: _, _, _, _, e => by simp [VS.allM] at e
theorem VRs.length {c : Fr} {M : Addr → Prop} {H : Hp} : ∀ {vs : List V} {xs : List EV} {as : List Addr}, VRs c M H vs xs as → vs.length = xs.length
  | _, _, _, .nil => rfl
  | _, _, _, .cons _ rs => by rw [List.length_cons, List.length_cons, rs.length]
/-- a tuple: shared where all its parts are -/
def tupE (g : AS) : ES := fun ρ K E => g ρ (fun xs ρ' => xs.length ≤ 1000 ∧ match allV xs with
  | some ds => K (.v (.tup ds)) ρ'
  | none => (match allM xs with
    | some ss => K (.m (.t ss)) ρ'
    | none => False)) E
/-- a list: its items shared -/
def lstE (g : AS) : ES := fun ρ K E => g ρ (fun xs ρ' => xs.length ≤ 1000 ∧ match allV xs with
  | some ds => K (.m (.l ds)) ρ'
  | none => False) E
section
variable {X : Cx} {c : Fr} {W : WX} {p p1 p2 : Bool} {es : List Expr} {g : AS} {pos : Pos} {σ : L2.St} {M M' : Addr → Prop} {T T' as : List Addr} {H H' : Hp} {ρ' : Rho}
theorem le1000 {n : Nat} (h : n ≤ 1000) : n ≤ sizeLine := Nat.le_trans h (by decide)
/-- the same, its temporaries in another order -/
theorem Post.perm {bs : List Addr} (q : Post c p σ M T H M' (as ++ T) H' ρ') (h : ∀ a, a ∈ bs ↔ a ∈ as) (n : as.Nodup → bs.Nodup) : Post c p σ M T H M' (bs ++ T) H' ρ' := by
  obtain ⟨Ms, r, nd, al⟩ := q.sr.slots
  refine ⟨⟨⟨Ms, r, ?_, fun a ha => al a ?_⟩, q.sr.ty, q.sr.src, q.sr.keep, q.sr.pin, q.sr.ln⟩, q.keep, q.new, q.pu⟩
  · obtain ⟨n1, n2, n3⟩ := List.nodup_append.mp nd
    obtain ⟨m1, m2, m3⟩ := List.nodup_append.mp n2
    refine List.nodup_append.mpr ⟨n1, List.nodup_append.mpr ⟨n m1, m2, fun a ha b hb => m3 a ((h a).mp ha) b hb⟩, fun a ha b hb => n3 a ha b ?_⟩
    rcases List.mem_append.mp hb with hb | hb
    · exact List.mem_append_left _ ((h b).mp hb)
    · exact List.mem_append_right _ hb
  · rcases List.mem_append.mp ha with ha | ha
    · exact List.mem_append_left _ ha
    · rcases List.mem_append.mp ha with ha | ha
      · exact List.mem_append_right _ (List.mem_append_left _ ((h a).mp ha))
      · exact List.mem_append_right _ (List.mem_append_right _ ha)
theorem Post.nd (q : Post c p σ M T H M' (as ++ T) H' ρ') : as.Nodup := by
  obtain ⟨Ms, r, nd, al⟩ := q.sr.slots
  exact (List.nodup_append.mp (List.nodup_append.mp nd).2.1).1
/-- a new list or instance that is owned from here on by a value on its way -/
theorem Post.own {a : Addr} {o : HO} (q : Post c p σ M T H M' T' H' ρ') (hn : H' a = none) (hy : Typed (upd H' a o) a) : Post c p σ M T H (fun b => M' b ∨ b = a) (a :: T') (upd H' a o) ρ' := by
  have x : Ext H' (upd H' a o) := Ext.new hn
  have q' := q.ext x
  obtain ⟨Ms, r, nd, al⟩ := q'.sr.slots
  have hm : ¬ M' a := fun z => (q.sr.ty a z).ne hn
  have hH0 : a ∈ c.io ∨ c.H0 a = none := by
    by_cases z : a ∈ c.io
    · exact .inl z
    · refine .inr ?_
      cases e : c.H0 a with
      | none => rfl
      | some u => rw [q.sr.keep a u e z] at hn; cases hn
  obtain ⟨Ms0, r0, nd0, al0⟩ := q.sr.slots
  have mv : Moved (fun _ => False) M' (fun b => M' b ∨ b = a) H' (upd H' a o) := ⟨fun b u e _ => x b u e, fun _ h => h.elim, fun _ h => h.elim, fun b h => h.imp id fun z => by rw [z]; exact hn⟩
  refine ⟨⟨⟨Ms0, r0.moved mv (fun _ _ z => z), ?_, fun b hb => ?_⟩, fun b hb => ?_, fun b hb => ?_, q'.sr.keep, q'.sr.pin, q'.sr.ln⟩, q'.keep, fun b hb => ?_, q'.pu⟩
  · obtain ⟨n1, n2, n3⟩ := List.nodup_append.mp nd0
    refine List.nodup_append.mpr ⟨n1, List.nodup_cons.mpr ⟨fun z => hm (al0 a (List.mem_append_right _ z)), n2⟩, fun b hb d hd e => ?_⟩
    rcases List.mem_cons.mp hd with z | z
    · exact hm (z ▸ e ▸ al0 b (List.mem_append_left _ hb))
    · exact n3 b hb d z e
  · rcases List.mem_append.mp hb with z | z
    · exact .inl (al0 b (List.mem_append_left _ z))
    · rcases List.mem_cons.mp z with z | z
      · exact .inr z
      · exact .inl (al0 b (List.mem_append_right _ z))
  · rcases hb with z | z
    · exact q'.sr.ty b z
    · rw [z]; exact hy
  · rcases hb with z | z
    · exact q.sr.src b z
    · rw [z]; exact hH0
  · rcases hb with z | z
    · exact q.new b z
    · rw [z]
      by_cases hma : M a
      · exact .inl hma
      · refine .inr ?_
        cases e : H a with
        | none => rfl
        | some u => rw [q.keep a u e fun y => absurd y hma] at hn; cases hn
/-- what owns nothing and stood stands, whatever new is owned -/
theorem Post.own_mv {a : Addr} {o : HO} (hn : H' a = none) : Moved (fun _ => False) M' (fun b => M' b ∨ b = a) H' (upd H' a o) :=
  ⟨fun b u e _ => Ext.new hn b u e, fun _ h => h.elim, fun _ h => h.elim, fun b h => h.imp id fun z => by rw [z]; exact hn⟩
theorem ej_tup {x1} (h : AJ X c W p es g) (hK : X.K = c.g.K) : EJ X c W p (.Tuple es x1 pos) (tupE g) := by
  refine ⟨fun ρ K K' E E' hk he q => h.mono _ _ _ _ _ (fun xs ρ' k => ⟨k.1, ?_⟩) he q, PE.imp (L2.pe_tup h.run) ?_⟩
  · have k2 := k.2
    split at k2
    · exact hk _ _ k2
    · split at k2
      · exact hk _ _ k2
      · exact k2
  · rintro σ H Q ⟨ρ, M, T, s, k⟩
    refine ⟨ρ, M, T, s, h.mono _ _ _ _ _ (fun xs ρ' k vs H' M' as q r => ⟨by rw [r.length]; exact le1000 k.1, fun pa hp => ?_⟩) (fun _ _ h => h) k⟩
    have k2 := k.2
    have x : Ext H' (upd H' pa (.tup vs)) := Ext.new hp
    split at k2
    · rename_i ds e
      obtain ⟨r', ea⟩ := r.allV e
      subst ea
      exact k2 _ _ M' [] (q.ext x) (.v (.tup (.inl (.inl L2.upd_same)) (r'.ext x)))
    · split at k2
      · rename_i ss e
        obtain ⟨bs, r', hb, nb⟩ := r.allM e
        exact k2 _ _ M' bs ((q.perm hb nb).ext x) (.m (.t (.inl (.inl L2.upd_same)) (r'.ext x)))
      · exact k2.elim
theorem ej_lst (h : AJ X c W p es g) : EJ X c W p (.List es pos) (lstE g) := by
  refine ⟨fun ρ K K' E E' hk he q => h.mono _ _ _ _ _ (fun xs ρ' k => ⟨k.1, ?_⟩) he q, PE.imp (L2.pe_lst h.run) ?_⟩
  · have k2 := k.2
    split at k2
    · exact hk _ _ k2
    · exact k2
  · rintro σ H Q ⟨ρ, M, T, s, k⟩
    refine ⟨ρ, M, T, s, h.mono _ _ _ _ _ (fun xs ρ' k vs H' M' as q r => ⟨by rw [r.length]; exact le1000 k.1, fun pa hp => ?_⟩) (fun _ _ h => h) k⟩
    have k2 := k.2
    split at k2
    · rename_i ds e
      obtain ⟨r', ea⟩ := r.allV e
      subst ea
      exact k2 _ _ _ [pa] (q.own hp (.inl ⟨_, L2.upd_same⟩)) (.m (.l L2.upd_same (r'.moved (Post.own_mv hp))))
    · exact k2.elim
end
end VS
set_option Elab.async false
set_option linter.all false
set_option maxRecDepth 100000
set_option maxHeartbeats 4000000
/-! VS4: operators, comparisons, subscripts. Own work. -/
namespace VS
open PySem PySem.Spec PyProof.Rows
open L2 (V Hp HO upd SqL SqT Rd Cx TE TT TA TS VK XK WX PE PT PA PS PSs OpR RelV)
/-- a list, however it is held -/
def asL : EV → Option (List D)
  | .v (.lst _ ds) => some ds
  | .b ds => some ds
  | .m (.l ds) => some ds
  | _ => none
/-- a tuple of shared data -/
def asT : EV → Option (List D)
  | .v (.tup ds) => some ds
  | _ => none
section
variable {X : Cx} {c : Fr} {W : WX} {p p1 p2 : Bool} {M M' M2 : Addr → Prop} {T T' as as1 as2 : List Addr} {σ : L2.St} {H H' H2 : Hp} {ρ ρ' ρ2 : Rho}
theorem VR.list {v : V} {x : EV} {ds : List D} (r : VR c M H v x as) (e : asL x = some ds) : ∃ a vs, v = .ref a ∧ SqL c.g.K H a vs ∧ Reps c.g c.Z M H vs ds := by
  cases r with
  | v r =>
    cases r with
    | lst l r => cases e; exact ⟨_, _, rfl, l.sq, r⟩
    | _ => cases e
  | b l r => cases e; exact ⟨_, _, rfl, .inl (.inl l), r⟩
  | m r =>
    cases r with
    | l h r => cases e; exact ⟨_, _, rfl, .inl (.inl h), r⟩
    | _ => cases e
theorem VR.tuple {v : V} {x : EV} {ds : List D} (r : VR c M H v x as) (e : asT x = some ds) : ∃ a vs, v = .ref a ∧ SqT c.g.K H a vs ∧ Reps c.g c.Z M H vs ds := by
  cases r with
  | v r =>
    cases r with
    | tup l r => cases e; exact ⟨_, _, rfl, l, r⟩
    | _ => cases e
  | _ => cases e
theorem VR.int {v : V} {i : Int} (r : VR c M H v (.v (.int i)) as) : v = .int i := by
  cases r with
  | v r => cases r; rfl
theorem VR.str {v : V} {i : Str} (r : VR c M H v (.v (.str i)) as) : v = .str i := by
  cases r with
  | v r => cases r; rfl
theorem VR.bl {v : V} {i : Bool} (r : VR c M H v (.v (.bl i)) as) : v = .bl i := by
  cases r with
  | v r => cases r; rfl
abbrev BR := EV → EV → (EV → Rho → Prop) → (Exc → Rho → Prop) → Rho → Prop
def MonoR (R : BR) : Prop := ∀ x y ρ K K' E E', (∀ x ρ', K x ρ' → K' x ρ') → (∀ x ρ', E x ρ' → E' x ρ') → R x y K E ρ → R x y K' E' ρ
/-- the reading r does what R says -/
def Says (c : Fr) (r : L2.R2) (R : BR) : Prop := ∀ (p : Bool) σ M T H M2 H2 ρ2 as1 as2 v u x y Q E, Post c p σ M T H M2 (as2 ++ (as1 ++ T)) H2 ρ2 → VR c M2 H2 v x as1 → VR c M2 H2 u y as2 →
      R x y (fun ev ρ' => ∀ v H' M' as, Post c p σ M T H M' (as ++ T) H' ρ' → VR c M' H' v ev as → Q v H') E ρ2 → r v u H2 Q
theorem ej_op {op : Operator} {a b : Expr} {f g : ES} {r : L2.R2} {R : BR} {pos : Pos} (ho : OpR X (binaryOp op) r) (hM : MonoR R) (hR : Says c r R) (ha : EJ X c W p1 a f) (hb : EJ X c W p2 b g) :
    EJ X c W (p1 && p2) (.BinOp a op b pos) (bin p2 f g R) :=
  ej_bin ha hb (fun h1 h2 => L2.pe_op ho h1 h2) hM fun σ M T H M2 H2 ρ2 as1 as2 v u x y Q E => hR (p1 && p2) σ M T H M2 H2 ρ2 as1 as2 v u x y Q E
theorem ej_cmp {op : CmpOp} {a b : Expr} {f g : ES} {r : L2.R2} {R : BR} {pos : Pos} (ho : OpR X (compareOp op) r) (hM : MonoR R) (hR : Says c r R) (hm : behindInMarks op b = false) (ha : EJ X c W p1 a f) (hb : EJ X c W p2 b g) :
    EJ X c W (p1 && p2) (.Compare a [op] [b] pos) (bin p2 f g R) :=
  ej_bin ha hb (fun h1 h2 => L2.pe_cmpR ho h1 h2 hm) hM fun σ M T H M2 H2 ρ2 as1 as2 v u x y Q E => hR (p1 && p2) σ M T H M2 H2 ρ2 as1 as2 v u x y Q E
theorem tj_cmp {op : CmpOp} {a b : Expr} {f g : ES} {r : L2.R2} {R : BR} {pos : Pos} (ho : OpR X (compareOp op) r) (hM : MonoR R) (hR : Says c r R) (hm : behindInMarks op b = false) (ha : EJ X c W p1 a f) (hb : EJ X c W p2 b g) :
    TJ X c W (p1 && p2) (.Compare a [op] [b] pos) (bT (bin p2 f g R)) := by
  have h := ej_cmp (W := W) (pos := pos) ho hM hR hm ha hb
  refine ⟨MonoB.bT h.mono, PT.imp (L2.pt_cmpR ho ha.run hb.run hm) fun σ H Q q => ?_⟩
  exact seq2 ha.mono hb.mono (fun σ M T H M2 H2 ρ2 as1 as2 v u x y Q E => hR (p1 && p2) σ M T H M2 H2 ρ2 as1 as2 v u x y Q E) σ H _ (bT_run h.mono σ H Q q)
/-! ints -/
def intR (C : Int → Int → Prop) (d : Int → Int → D) : BR := fun x y K _ ρ => match x, y with
  | .v (.int i), .v (.int j) => C i j ∧ K (.v (d i j)) ρ
  | _, _ => False
theorem intR_mono {C : Int → Int → Prop} {d : Int → Int → D} : MonoR (intR C d) := fun x y ρ K K' E E' hk _ h => by
  unfold intR at h ⊢
  split at h
  · exact ⟨h.1, hk _ _ h.2⟩
  · exact h
theorem intR_says {C C' : Int → Int → Prop} {d : Int → Int → D} {g : Int → Int → V} (hC : ∀ i j, C i j → C' i j) (hd : ∀ (M : Addr → Prop) (H : Hp) i j, Rep c.g c.Z M H (g i j) (d i j)) : Says c (L2.rI C' g) (intR C d) := by
  intro p σ M T H M2 H2 ρ2 as1 as2 v u x y Q E q r1 r2 h
  unfold intR at h
  split at h
  · exact ⟨_, _, r1.int, r2.int, hC _ _ h.1, h.2 _ H2 M2 [] q.drop.drop (.v (hd _ _ _ _))⟩
  · exact h.elim
theorem intR_says0 {d : Int → Int → D} {g : Int → Int → V} (hd : ∀ (M : Addr → Prop) (H : Hp) i j, Rep c.g c.Z M H (g i j) (d i j)) : Says c (L2.rI0 g) (intR (fun _ _ => True) d) := by
  intro p σ M T H M2 H2 ρ2 as1 as2 v u x y Q E q r1 r2 h
  unfold intR at h
  split at h
  · exact ⟨_, _, r1.int, r2.int, h.2 _ H2 M2 [] q.drop.drop (.v (hd _ _ _ _))⟩
  · exact h.elim
/-- a product whose size is in bounds -/
def MulOk (i j : Int) : Prop := i.natAbs.log2 + j.natAbs.log2 < 130000000
theorem MulOk.ok {i j : Int} (h : MulOk i j) : IntMulOk i j := by
  have b : ∀ x : Int, Builtin.Int.intBits x ≤ x.natAbs.log2 + 1 := fun x => by
    unfold Builtin.Int.intBits
    split <;> omega
  have h1 := b i
  have h2 := b j
  have h3 : i.natAbs.log2 + j.natAbs.log2 < 130000000 := h
  have e : bitsLine = 134217728 := by decide
  unfold IntMulOk
  intro z
  rw [Bool.and_eq_true] at z
  have z2 := z.2
  unfold Builtin.Int.intTooBig at z2
  have z3 := of_decide_eq_true z2
  rw [e] at z3
  omega
theorem op_mulV : OpR X (binaryOp .Mult) (L2.rI MulOk fun i j => .int (i * j)) := L2.opI fun _ _ _ _ _ _ _ hc q => mul_int q hc.ok
/-! `//` of any size: CPython divides great numbers by a module of its own; what that asks -/
/-- nobody has touched what such a division looks at -/
structure PyK (P : Program) (K : PySem.W.Frag) (mg : Str → Option Value) : Prop where
  tree : P.given.tree = none
  st : ∀ h : Heap, K.In h → ∃ mc, h.Ns cStatics mc ∧ mc "sys.audit-hooks" = none ∧ mc "sys.dict" = none
  mo : ∀ h : Heap, K.In h → ∃ mm, h.Ns sysModules mm ∧ mm "_pylong" = none
  mn : ∃ bm ob, mg "__builtins__" = some (.ref bm) ∧ K.lookup bm = some ob ∧ ob.cls = .type "module" ∧ ob.dict = some builtinsNs
/-- .. here, with room for its frames -/
structure PyA (P : Program) (K : PySem.W.Frag) (mg : Str → Option Value) (A : Around) (st : List Env) : Prop where
  k : PyK P K mg
  d : A.depth + Builtin.pylongFrames < recursionLimit
  s : ∃ env l, st = env :: l ∧ env.scope.isGenerator = false ∧ env.scope.isCoroutine = false ∧ env.builtins = builtinsNs ∧ env.globals = mainGlobals
abbrev PyX (X : Cx) : Prop := PyA X.prog X.K X.mg X.A X.stack
theorem PyA.room {pins : List (Addr × Obj)} {s : Shared} (p : PyX X) (I : L2.Inv X pins σ H s) : PylongRoom (model X.prog X.w) X.A s := by
  obtain ⟨env, l, e, g1, g2, g3, g4⟩ := p.s
  obtain ⟨bm, ob, b1, b2, b3, b4⟩ := p.k.mn
  obtain ⟨mb, nb, hb⟩ := I.ok.mod.blt
  have hN : s.heap.NoSeer := ⟨p.k.st _ I.kIn, p.k.mo _ I.kIn, ⟨mb, nb.keepsP I.bk, hb⟩, ⟨X.mg, bm, ob, I.ok.mod.glob.keepsP I.bk, b1, I.kIn _ _ b2, b3, b4⟩⟩
  exact PylongRoom.of I.nolimit p.d (SeerAt.of (env := env) (l := l) hN p.k.tree (by rw [I.ok.frames, e]) g1 g2 g3 g4)
/-- a divisor -/
def DivOk (_ j : Int) : Prop := j ≠ 0
theorem op_fdivV (hP : PyX X) : OpR X (binaryOp .FloorDiv) (L2.rI DivOk fun i j => .int (i.fdiv j)) := by
  intro pins s σ H x y v u Q I rx ry h
  obtain ⟨i, j, rfl, rfl, hc, q⟩ := h
  obtain ⟨t, rfl⟩ := rx
  obtain ⟨t', rfl⟩ := ry
  exact floordiv_int hc ⟨.int (i.fdiv j), H, I.tok _, ⟨_, rfl⟩, q⟩ (.inr (PyA.room hP I))
/-! + of ints, texts, tuples, lists -/
theorem op_catL : OpR X (binaryOp .Add) (fun x y H Q => ∃ l b xs zs, x = .ref l ∧ y = .ref b ∧ SqL X.K H l xs ∧ SqL X.K H b zs ∧ xs.length + zs.length ≤ sizeLine ∧ ∀ p, H p = none → Q (.ref p) (upd H p (.lst (xs ++ zs)))) := by
  intro pins s σ H x y v u Q I rx ry h
  obtain ⟨l, b, xs, zs, rfl, rfl, hH, hB, hz, q⟩ := h
  cases rx
  cases ry
  obtain ⟨its, r, pl, _⟩ := I.list hH
  obtain ⟨its2, r2, pl2, _⟩ := I.list hB
  have hsz : its.toArray.size + its2.toArray.size ≤ sizeLine := by rw [List.size_toArray, List.size_toArray, ← r.length, ← r2.length]; exact hz
  obtain ⟨⟨cls, dd, data, sl⟩, ho, hc, n, hd⟩ := pl.isList
  obtain ⟨⟨cls2, dd2, data2, sl2⟩, ho2, hc2, n2, hd2⟩ := pl2.isList
  simp only at hc hd hc2 hd2
  subst hc hd hc2 hd2
  have e : its.toArray ++ its2.toArray = (its ++ its2).toArray := by simp
  refine concat_meets ⟨_, ho, rfl⟩ ⟨_, ho2, rfl⟩ noFill_list_add seq_list_add PySem.F.slot_list_add PySem.F.entry_list_add (PySem.F.args_list_add_2 _ _) (list_addW l b its.toArray its2.toArray n n2 dd dd2 sl sl2 hsz) ⟨ho, ho2, ?_⟩
  rw [e]
  exact ⟨.ref _, _, I.lnew (t' := s.toks) (r.append r2) (by rw [List.length_append]; exact hz), rfl, q _ I.fresh⟩
def addR : BR := fun x y K _ ρ => match x, y with
  | .v (.int i), .v (.int j) => K (.v (.int (i + j))) ρ
  | .v (.str a), .v (.str b) => a.length + b.length ≤ sizeLine ∧ K (.v (.str (a ++ b))) ρ
  | .v (.tup a), .v (.tup b) => (a ≠ [] ∧ b ≠ [] ∧ a.length + b.length ≤ 100000) ∧ K (.v (.tup (a ++ b))) ρ
  | x, y => match asL x, asL y with
    | some a, some b => a.length + b.length ≤ 1000000 ∧ K (.m (.l (a ++ b))) ρ
    | _, _ => False
theorem addR_mono : MonoR addR := fun x y ρ K K' E E' hk _ h => by
  unfold addR at h ⊢
  split at h
  · exact hk _ _ h
  · exact ⟨h.1, hk _ _ h.2⟩
  · exact ⟨h.1, hk _ _ h.2⟩
  · split at h
    · exact ⟨h.1, hk _ _ h.2⟩
    · exact h
abbrev rAdd : L2.R2 := fun x y H Q => L2.rI0 (fun i j => .int (i + j)) x y H Q ∨ (∃ i j, x = .str i ∧ y = .str j ∧ i.length + j.length ≤ sizeLine ∧ Q (.str (i ++ j)) H) ∨ L2.rCatT X.K x y H Q ∨
  ∃ l b xs zs, x = .ref l ∧ y = .ref b ∧ SqL X.K H l xs ∧ SqL X.K H b zs ∧ xs.length + zs.length ≤ sizeLine ∧ ∀ p, H p = none → Q (.ref p) (upd H p (.lst (xs ++ zs)))
theorem op_addV : OpR X (binaryOp .Add) (rAdd (X := X)) := L2.op_add.or (L2.op_add_str.or (L2.op_catT.or op_catL))
theorem le_line {n k : Nat} (h : n ≤ k) (hk : k ≤ 1000000) : n ≤ sizeLine := Nat.le_trans h (Nat.le_trans hk (by decide))
theorem addR_says (hK : X.K = c.g.K) : Says c (rAdd (X := X)) addR := by
  intro p σ M T H M2 H2 ρ2 as1 as2 v u x y Q E q r1 r2 h
  unfold addR at h
  split at h
  · exact .inl ⟨_, _, r1.int, r2.int, h _ H2 M2 [] q.drop.drop (.v (.int _))⟩
  · exact .inr (.inl ⟨_, _, r1.str, r2.str, h.1, h.2 _ H2 M2 [] q.drop.drop (.v (.str _))⟩)
  · rename_i a b
    obtain ⟨l1, vs1, e1, t1, q1⟩ := r1.tuple rfl
    obtain ⟨l2, vs2, e2, t2, q2⟩ := r2.tuple rfl
    obtain ⟨⟨n1, n2, n3⟩, k⟩ := h
    have z1 : vs1 ≠ [] := fun z => n1 (by have := q1.length; rw [z] at this; exact List.length_eq_zero_iff.mp this.symm)
    have z2 : vs2 ≠ [] := fun z => n2 (by have := q2.length; rw [z] at this; exact List.length_eq_zero_iff.mp this.symm)
    refine .inr (.inr (.inl ⟨l1, l2, vs1, vs2, e1, e2, hK ▸ t1, hK ▸ t2, z1, by rw [q1.length, q2.length]; exact le_line n3 (by decide), fun z => absurd z z2, fun _ pa hp => ?_⟩))
    exact k _ _ M2 [] (q.drop.drop.ext (Ext.new hp)) (.v (.tup (.inl (.inl L2.upd_same)) ((q1.append q2).ext (Ext.new hp))))
  · split at h
    · rename_i a b ea eb
      obtain ⟨l1, vs1, e1, t1, q1⟩ := r1.list ea
      obtain ⟨l2, vs2, e2, t2, q2⟩ := r2.list eb
      refine .inr (.inr (.inr ⟨l1, l2, vs1, vs2, e1, e2, hK ▸ t1, hK ▸ t2, by rw [q1.length, q2.length]; exact le_line h.1 (by decide), fun pa hp => ?_⟩))
      exact h.2 _ _ _ [pa] (q.drop.drop.own hp (.inl ⟨_, L2.upd_same⟩)) (.m (.l L2.upd_same ((q1.append q2).moved (Post.own_mv hp))))
    · exact h.elim
theorem ej_add {a b : Expr} {f g : ES} {pos : Pos} (hK : X.K = c.g.K) (ha : EJ X c W p1 a f) (hb : EJ X c W p2 b g) : EJ X c W (p1 && p2) (.BinOp a .Add b pos) (bin p2 f g addR) := ej_op op_addV addR_mono (addR_says hK) ha hb
theorem ej_sub {a b : Expr} {f g : ES} {pos : Pos} (ha : EJ X c W p1 a f) (hb : EJ X c W p2 b g) : EJ X c W (p1 && p2) (.BinOp a .Sub b pos) (bin p2 f g (intR (fun _ _ => True) fun i j => .int (i - j))) :=
  ej_op L2.op_sub intR_mono (intR_says0 fun _ _ _ _ => .int _) ha hb
theorem ej_mul {a b : Expr} {f g : ES} {pos : Pos} (ha : EJ X c W p1 a f) (hb : EJ X c W p2 b g) : EJ X c W (p1 && p2) (.BinOp a .Mult b pos) (bin p2 f g (intR MulOk fun i j => .int (i * j))) :=
  ej_op op_mulV intR_mono (intR_says (fun _ _ h => h) fun _ _ _ _ => .int _) ha hb
theorem ej_fdiv {a b : Expr} {f g : ES} {pos : Pos} (hP : PyX X) (ha : EJ X c W p1 a f) (hb : EJ X c W p2 b g) : EJ X c W (p1 && p2) (.BinOp a .FloorDiv b pos) (bin p2 f g (intR DivOk fun i j => .int (i.fdiv j))) :=
  ej_op (op_fdivV hP) intR_mono (intR_says (fun _ _ h => h) fun _ _ _ _ => .int _) ha hb
theorem ej_mod {a b : Expr} {f g : ES} {pos : Pos} (ha : EJ X c W p1 a f) (hb : EJ X c W p2 b g) : EJ X c W (p1 && p2) (.BinOp a .Mod b pos) (bin p2 f g (intR (fun _ j => j ≠ 0) fun i j => .int (i.fmod j))) :=
  ej_op L2.op_modN intR_mono (intR_says (fun _ _ h => h) fun _ _ _ _ => .int _) ha hb
theorem ej_pow {a b : Expr} {f g : ES} {pos : Pos} (ha : EJ X c W p1 a f) (hb : EJ X c W p2 b g) : EJ X c W (p1 && p2) (.BinOp a .Pow b pos) (bin p2 f g (intR L2.CPow fun i j => .int (i ^ j.toNat))) :=
  ej_op L2.op_pow intR_mono (intR_says (fun _ _ h => h) fun _ _ _ _ => .int _) ha hb
/-! order of ints -/
abbrev ltR : BR := intR (fun _ _ => True) fun i j => .bl (decide (i < j))
abbrev gtR : BR := intR (fun _ _ => True) fun i j => .bl (decide (j < i))
theorem ltR_says : Says c (L2.rI0 fun i j => .bl (decide (i < j))) ltR := intR_says0 fun _ _ _ _ => .bl _
theorem gtR_says : Says c (L2.rI0 fun i j => .bl (decide (j < i))) gtR := intR_says0 fun _ _ _ _ => .bl _
section
variable {a b : Expr} {f g : ES} {pos : Pos}
theorem tj_lt (ha : EJ X c W p1 a f) (hb : EJ X c W p2 b g) : TJ X c W (p1 && p2) (.Compare a [.Lt] [b] pos) (bT (bin p2 f g ltR)) := tj_cmp L2.op_lt intR_mono ltR_says (L2.nomark _) ha hb
theorem tj_gt (ha : EJ X c W p1 a f) (hb : EJ X c W p2 b g) : TJ X c W (p1 && p2) (.Compare a [.Gt] [b] pos) (bT (bin p2 f g gtR)) := tj_cmp L2.op_gt intR_mono gtR_says (L2.nomark _) ha hb
end
end
/-! equality of data -/
mutual
def py : D → PyData
  | .non => .none
  | .bl b => .bool b
  | .int i => .int i
  | .str s => .str s
  | .tup ds => .tuple (pys ds)
  | .lst _ ds => .list (pys ds)
  | .ty _ => .none
  | .fn _ => .none
  | .dct _ _ => .none
  | .ex _ _ _ => .none
def pys : List D → List PyData
  | [] => []
  | d :: ds => py d :: pys ds
end
mutual
def eqD : D → D → Bool
  | .non, .non => true
  | .bl a, .bl b => a == b
  | .bl a, .int j => (if a then 1 else 0) == j
  | .int i, .bl b => i == (if b then 1 else 0)
  | .int i, .int j => i == j
  | .str x, .str y => x == y
  | .tup xs, .tup ys => eqDs xs ys
  | .lst _ xs, .lst _ ys => eqDs xs ys
  | _, _ => false
def eqDs : List D → List D → Bool
  | [], [] => true
  | x :: xs, y :: ys => eqD x y && eqDs xs ys
  | _, _ => false
end
mutual
def depD : D → Nat
  | .tup ds => depDs ds + 1
  | .lst _ ds => depDs ds + 1
  | _ => 0
def depDs : List D → Nat
  | [] => 0
  | d :: ds => max (depD d) (depDs ds)
end
mutual
def cmpD : D → Bool
  | .tup ds => cmpDs ds
  | .lst _ ds => cmpDs ds
  | .ty _ => false
  | .fn _ => false
  | .dct _ _ => false
  | .ex _ _ _ => false
  | _ => true
def cmpDs : List D → Bool
  | [] => true
  | d :: ds => cmpD d && cmpDs ds
end
mutual
theorem py_plain : ∀ d : D, (py d).plain = true
  | .non => rfl
  | .bl _ => rfl
  | .int _ => rfl
  | .str _ => rfl
  | .tup ds => by rw [py, PyData.plain]; exact pys_plain ds
  | .lst _ ds => by rw [py, PyData.plain]; exact pys_plain ds
  | .ty _ => rfl
  | .fn _ => rfl
  | .dct _ _ => rfl
  | .ex _ _ _ => rfl
theorem pys_plain : ∀ ds : List D, PyData.plainAll (pys ds) = true
  | [] => rfl
  | d :: ds => by rw [pys, PyData.plainAll, py_plain d, pys_plain ds]; rfl
end
mutual
theorem py_depth : ∀ d : D, (py d).depth = depD d
  | .non => rfl
  | .bl _ => rfl
  | .int _ => rfl
  | .str _ => rfl
  | .tup ds => by rw [py, PyData.depth, depD, pys_depth ds]
  | .lst _ ds => by rw [py, PyData.depth, depD, pys_depth ds]
  | .ty _ => rfl
  | .fn _ => rfl
  | .dct _ _ => rfl
  | .ex _ _ _ => rfl
theorem pys_depth : ∀ ds : List D, PyData.depthAll (pys ds) = depDs ds
  | [] => rfl
  | d :: ds => by rw [pys, PyData.depthAll, depDs, py_depth d, pys_depth ds]
end
mutual
theorem py_eqv : ∀ a b : D, cmpD a = true → cmpD b = true → PyData.eqv (py a) (py b) = eqD a b
  | .tup xs, .tup ys, ha, hb => by
    rw [cmpD] at ha hb
    rw [py, py, PyData.eqv, eqD]; exact pys_eqv xs ys ha hb
  | .lst _ xs, .lst _ ys, ha, hb => by
    rw [cmpD] at ha hb
    rw [py, py, PyData.eqv, eqD]; exact pys_eqv xs ys ha hb
  | .non, b, _, hb => by cases b <;> first | rfl | exact absurd hb (by simp [cmpD])
  | .bl _, b, _, hb => by cases b <;> first | rfl | exact absurd hb (by simp [cmpD])
  | .int _, b, _, hb => by cases b <;> first | rfl | exact absurd hb (by simp [cmpD])
  | .str _, b, _, hb => by cases b <;> first | rfl | exact absurd hb (by simp [cmpD])
  | .tup _, .non, _, _ => rfl
  | .tup _, .bl _, _, _ => rfl
  | .tup _, .int _, _, _ => rfl
  | .tup _, .str _, _, _ => rfl
  | .tup _, .lst _ _, _, _ => rfl
  | .lst _ _, .non, _, _ => rfl
  | .lst _ _, .bl _, _, _ => rfl
  | .lst _ _, .int _, _, _ => rfl
  | .lst _ _, .str _, _, _ => rfl
  | .lst _ _, .tup _, _, _ => rfl
  | .tup _, .ty _, _, hb => absurd hb (by simp [cmpD])
  | .tup _, .fn _, _, hb => absurd hb (by simp [cmpD])
  | .tup _, .dct _ _, _, hb => absurd hb (by simp [cmpD])
  | .tup _, .ex _ _ _, _, hb => absurd hb (by simp [cmpD])
  | .lst _ _, .ty _, _, hb => absurd hb (by simp [cmpD])
  | .lst _ _, .fn _, _, hb => absurd hb (by simp [cmpD])
  | .lst _ _, .dct _ _, _, hb => absurd hb (by simp [cmpD])
  | .lst _ _, .ex _ _ _, _, hb => absurd hb (by simp [cmpD])
  | .ty _, _, ha, _ => absurd ha (by simp [cmpD])
  | .fn _, _, ha, _ => absurd ha (by simp [cmpD])
  | .dct _ _, _, ha, _ => absurd ha (by simp [cmpD])
  | .ex _ _ _, _, ha, _ => absurd ha (by simp [cmpD])
theorem pys_eqv : ∀ xs ys : List D, cmpDs xs = true → cmpDs ys = true → PyData.eqvAll (pys xs) (pys ys) = eqDs xs ys
  | [], [], _, _ => rfl
  | [], _ :: _, _, _ => rfl
  | _ :: _, [], _, _ => rfl
  | x :: xs, y :: ys, ha, hb => by
    rw [cmpDs, Bool.and_eq_true] at ha hb
    rw [pys, pys, PyData.eqvAll, eqDs, py_eqv x y ha.1 hb.1, pys_eqv xs ys ha.2 hb.2]
end
section
variable {g : Ge} {Z M : Addr → Prop} {H : Hp}
mutual
theorem Rep.dp : ∀ {v : V} {d : D}, Rep g Z M H v d → cmpD d = true → L2.Dp g.K H v (py d)
  | _, _, .non, _ => .non
  | _, _, .bl b, _ => .bl b
  | _, _, .int i, _ => .int i
  | _, _, .str s, _ => .str s
  | _, _, .ty _, k => absurd k (by simp [cmpD])
  | _, _, .fn _, k => absurd k (by simp [cmpD])
  | _, _, .tup h r, k => .tup h (r.dp (by simpa [cmpD] using k))
  | _, _, .lst h r, k => .lst h.sq (r.dp (by simpa [cmpD] using k))
  | _, _, .dct _ _ _ _, k => absurd k (by simp [cmpD])
  | _, _, .ex0 _ _ _, k => absurd k (by simp [cmpD])
  | _, _, .ex1 _ _ _ _ _ _ _, k => absurd k (by simp [cmpD])
theorem Reps.dp : ∀ {vs : List V} {ds : List D}, Reps g Z M H vs ds → cmpDs ds = true → L2.DpAll g.K H vs (pys ds)
  | _, _, .nil, _ => .nil
  | _, d :: ds, .cons r rs, k => by
    have k' : cmpD d = true ∧ cmpDs ds = true := by simpa [cmpDs] using k
    exact .cons (r.dp k'.1) (rs.dp k'.2)
end
mutual
theorem RepO.dp : ∀ {v : V} {s : Sl} {as : List Addr} {d : D}, RepO g Z M H v s as → frSl s = some d → cmpD d = true → L2.Dp g.K H v (py d)
  | _, _, _, _, .v r, e, k => by
    rw [frSl] at e; cases e; exact r.dp k
  | _, _, _, _, .l h r, e, k => by
    rw [frSl] at e; cases e; exact .lst (.inl (.inl h)) (r.dp (by simpa [cmpD] using k))
  | _, .t ss, _, _, .t h r, e, k => by
    rw [frSl] at e
    cases q : frSls ss with
    | none => rw [q] at e; cases e
    | some ds => rw [q] at e; cases e; exact .tup h (r.dp q (by simpa [cmpD] using k))
  | _, _, _, _, .o _ _ _ _ _, e, _ => by rw [frSl] at e; cases e
  | _, _, _, _, .dt _ _ _ _, e, _ => by rw [frSl] at e; cases e
  | _, .ll ss, _, _, .ll h r, e, k => by
    rw [frSl] at e
    cases q : frSls ss with
    | none => rw [q] at e; cases e
    | some ds => rw [q] at e; cases e; exact .lst (.inl (.inl h)) (r.dp q (by simpa [cmpD] using k))
theorem RepOs.dp : ∀ {vs : List V} {ss : List Sl} {as : List Addr} {ds : List D}, RepOs g Z M H vs ss as → frSls ss = some ds → cmpDs ds = true → L2.DpAll g.K H vs (pys ds)
  | _, _, _, _, .nil, e, _ => by rw [frSls] at e; cases e; exact .nil
  | _, s :: ss, _, _, .cons r rs, e, k => by
    rw [frSls] at e
    cases q : frSl s with
    | none => rw [q] at e; cases e
    | some d =>
      cases q2 : frSls ss with
      | none => rw [q, q2] at e; cases e
      | some ds =>
        rw [q, q2] at e; cases e
        have k' : cmpD d = true ∧ cmpDs ds = true := by simpa [cmpDs] using k
        exact .cons (r.dp q k'.1) (rs.dp q2 k'.2)
end
end
/-- as data, however it is held -/
def asD : EV → Option D
  | .v d => some d
  | .b ds => some (.lst false ds)
  | .m s => frSl s
  | .p _ => none
section
variable {X : Cx} {c : Fr} {W : WX} {p p1 p2 : Bool} {M M' M2 : Addr → Prop} {T T' as as1 as2 : List Addr} {σ : L2.St} {H H' H2 : Hp} {ρ ρ' ρ2 : Rho}
theorem VR.dp {v : V} {x : EV} {d : D} (r : VR c M H v x as) (e : asD x = some d) (k : cmpD d = true) : L2.Dp c.g.K H v (py d) := by
  cases r with
  | v r => cases e; exact r.dp k
  | b l r => cases e; exact .lst (.inl (.inl l)) (r.dp (by simpa [cmpD] using k))
  | m r => exact r.dp e k
def rEqP (K : PySem.W.Frag) (neg : Bool) : L2.R2 := fun x y H Q => ∃ d e, L2.Dp K H x d ∧ L2.Dp K H y e ∧ d.plain = true ∧ e.plain = true ∧ min d.depth e.depth ≤ 100 ∧ Q (.bl (if neg then !PyData.eqv d e else PyData.eqv d e)) H
theorem op_eqP (hu : X.A.units + 128 < cLine) : OpR X (compareOp .Eq) (rEqP X.K false) := by
  intro pins s σ H x y v u Q I rx ry h
  obtain ⟨d, e, hd, he, sd, se, hm, q⟩ := h
  obtain ⟨as, r1⟩ := L2.Dp.reads I d x v hd rx
  obtain ⟨bs, r2⟩ := L2.Dp.reads I e y u he ry
  exact SeqAt.eq_plain r1 r2 sd se (by omega) ⟨.bl _, H, I, rfl, q⟩
theorem op_neP (hu : X.A.units + 128 < cLine) : OpR X (compareOp .NotEq) (rEqP X.K true) := by
  intro pins s σ H x y v u Q I rx ry h
  obtain ⟨d, e, hd, he, sd, se, hm, q⟩ := h
  obtain ⟨as, r1⟩ := L2.Dp.reads I d x v hd rx
  obtain ⟨bs, r2⟩ := L2.Dp.reads I e y u he ry
  exact SeqAt.ne_plain r1 r2 sd se (by omega) ⟨.bl _, H, I, rfl, q⟩
def eqR (neg : Bool) : BR := fun x y K _ ρ => match asD x, asD y with
  | some a, some b => (cmpD a = true ∧ cmpD b = true ∧ min (depD a) (depD b) ≤ 100) ∧ K (.v (.bl (if neg then !eqD a b else eqD a b))) ρ
  | _, _ => False
theorem eqR_mono {neg : Bool} : MonoR (eqR neg) := fun x y ρ K K' E E' hk _ h => by
  unfold eqR at h ⊢
  split at h
  · exact ⟨h.1, hk _ _ h.2⟩
  · exact h
theorem eqR_says {neg : Bool} (hK : X.K = c.g.K) : Says c (rEqP X.K neg) (eqR neg) := by
  intro p σ M T H M2 H2 ρ2 as1 as2 v u x y Q E q r1 r2 h
  unfold eqR at h
  split at h
  · rename_i a b ea eb
    obtain ⟨⟨ca, cb, dp⟩, k⟩ := h
    refine ⟨py a, py b, hK ▸ r1.dp ea ca, hK ▸ r2.dp eb cb, py_plain a, py_plain b, by rw [py_depth, py_depth]; exact dp, ?_⟩
    rw [py_eqv a b ca cb]
    exact k _ H2 M2 [] q.drop.drop (.v (.bl _))
  · exact h.elim
section
variable {a b : Expr} {f g : ES} {pos : Pos}
theorem ej_eq (hK : X.K = c.g.K) (hu : X.A.units + 128 < cLine) (ha : EJ X c W p1 a f) (hb : EJ X c W p2 b g) : EJ X c W (p1 && p2) (.Compare a [.Eq] [b] pos) (bin p2 f g (eqR false)) := ej_cmp (op_eqP hu) eqR_mono (eqR_says hK) (L2.nomark _) ha hb
theorem tj_eq (hK : X.K = c.g.K) (hu : X.A.units + 128 < cLine) (ha : EJ X c W p1 a f) (hb : EJ X c W p2 b g) : TJ X c W (p1 && p2) (.Compare a [.Eq] [b] pos) (bT (bin p2 f g (eqR false))) := tj_cmp (op_eqP hu) eqR_mono (eqR_says hK) (L2.nomark _) ha hb
theorem tj_ne (hK : X.K = c.g.K) (hu : X.A.units + 128 < cLine) (ha : EJ X c W p1 a f) (hb : EJ X c W p2 b g) : TJ X c W (p1 && p2) (.Compare a [.NotEq] [b] pos) (bT (bin p2 f g (eqR true))) := tj_cmp (op_neP hu) eqR_mono (eqR_says hK) (L2.nomark _) ha hb
end
/-! is None -/
def isNon : EV → Bool
  | .v .non => true
  | .m (.v .non) => true
  | _ => false
end
end VS
set_option Elab.async false
set_option linter.all false
set_option maxRecDepth 100000
set_option maxHeartbeats 4000000
/-! VS5: subscripts, built-in calls, calls of defs. Own work. -/
namespace VS
open PySem PySem.Spec PyProof.Rows
open L2 (V Hp HO upd SqL SqT Rd Cx TE TT TA TS VK XK WX PE PT PA PS PSs OpR RelV CallR Sp FnOk atI)
section
variable {X : Cx} {c : Fr} {W : WX} {p p1 p2 : Bool} {M M' M2 : Addr → Prop} {T T' as as1 as2 : List Addr} {σ : L2.St} {H H' H2 : Hp} {ρ ρ' ρ2 : Rho}
/-! is None -/
def isNR (neg : Bool) : BR := fun x y K _ ρ => match y with
  | .v .non => K (.v (.bl (if neg then !isNon x else isNon x))) ρ
  | _ => False
/-! a op1 b op2 c of ints -/
def chainE (p2 p3 : Bool) (R R' : Int → Int → Bool) (f g h : ES) : ES := fun ρ K E => f ρ (fun x ρ1 => g ρ1 (fun y ρ2 => match x, y with
  | .v (.int i), .v (.int j) => if R i j = true then h ρ2 (fun z ρ3 => match z with
    | .v (.int k) => K (.v (.bl (R' j k))) ρ3
    | _ => False) E else K (.v (.bl false)) ρ2
  | _, _ => False) E) E
/-! and, or, not as values -/
def tvE (f : BS) : ES := fun ρ K E => f ρ (fun b ρ' => K (.v (.bl b)) ρ') E
def andV (f g : ES) : ES := fun ρ K E => f ρ (fun x ρ1 => match x with
  | .v (.bl b) => if b = true then g ρ1 K E else K (.v (.bl false)) ρ1
  | _ => False) E
def orV (f g : ES) : ES := fun ρ K E => f ρ (fun x ρ1 => match x with
  | .v (.bl b) => if b = true then K (.v (.bl true)) ρ1 else g ρ1 K E
  | _ => False) E
def notV (f : ES) : ES := fun ρ K E => f ρ (fun x ρ1 => match x with
  | .v (.bl b) => K (.v (.bl (!b))) ρ1
  | _ => False) E
section
variable {a b : Expr} {f g : ES} {pos : Pos}
/-- a if t else b -/
def ifE (t : BS) (f g : ES) : ES := fun ρ K E => t ρ (fun b ρ1 => if b = true then f ρ1 K E else g ρ1 K E) E
end
/-! x[i] -/
theorem ixN_of {α : Type} {n : Nat} {xs : List α} {i : Int} {v : α} (h : atI xs i = some v) : ∃ j, L2.ixN xs.length i = some j ∧ xs[j]? = some v := by
  unfold L2.atI at h
  cases e : L2.ixN xs.length i with
  | none => rw [e] at h; cases h
  | some j => rw [e] at h; exact ⟨j, rfl, h⟩
theorem atI_reps {g : Ge} {Z : Addr → Prop} {vs : List V} {ds : List D} {i : Int} {d : D} (r : Reps g Z M H vs ds) (h : atI ds i = some d) : ∃ v, atI vs i = some v ∧ Rep g Z M H v d := by
  obtain ⟨j, h1, h2⟩ := ixN_of (n := 0) h
  obtain ⟨v, h3, h4⟩ := r.get h2
  refine ⟨v, ?_, h4⟩
  unfold L2.atI
  rw [r.length, h1]; exact h3
theorem RepOs.get' {g : Ge} {Z : Addr → Prop} : ∀ {vs : List V} {ss : List Sl} {as : List Addr} {j : Nat} {s : Sl}, RepOs g Z M H vs ss as → ss[j]? = some s → ∃ v bs, vs[j]? = some v ∧ RepO g Z M H v s bs ∧ bs.Sublist as
  | _, _, _, _, _, .nil, e => by simp at e
  | _, _, _, 0, _, .cons r _, e => by simp at e; subst e; exact ⟨_, _, rfl, r, List.sublist_append_left _ _⟩
  | _, _, _, j + 1, s, .cons _ rs, e => by
    obtain ⟨v, bs, h1, h2, h3⟩ := rs.get' (j := j) (s := s) (by simpa using e)
    exact ⟨v, bs, by simpa using h1, h2, h3.trans (List.sublist_append_right _ _)⟩
theorem RepOs.length {g : Ge} {Z : Addr → Prop} : ∀ {vs : List V} {ss : List Sl} {as : List Addr}, RepOs g Z M H vs ss as → vs.length = ss.length
  | _, _, _, .nil => rfl
  | _, _, _, .cons _ rs => by rw [List.length_cons, List.length_cons, rs.length]
/-- an owned thing yielded -/
def slEV : Sl → Option EV
  | .no => none
  | .v d => some (.v d)
  | s => some (.m s)
theorem RepO.ev {v : V} {s : Sl} {bs : List Addr} {x : EV} (r : RepO c.g c.Z M H v s bs) (e : slEV s = some x) : VR c M H v x bs := by
  cases r with
  | v r => cases e; exact .v r
  | l h r => cases e; exact .m (.l h r)
  | t h r => cases e; exact .m (.t h r)
  | o h n a b r => cases e; exact .m (.o h n a b r)
  | ll h r => cases e; exact .m (.ll h r)
  | dt h n a r => cases e; exact .m (.dt h n a r)
theorem Post.sub {bs : List Addr} (q : Post c p σ M T H M' (as ++ T) H' ρ') (h : bs.Sublist as) : Post c p σ M T H M' (bs ++ T) H' ρ' := by
  obtain ⟨Ms, r, nd, al⟩ := q.sr.slots
  have hs : (Ms ++ (bs ++ T)).Sublist (Ms ++ (as ++ T)) := List.Sublist.append (List.Sublist.refl _) (List.Sublist.append h (List.Sublist.refl _))
  exact ⟨⟨⟨Ms, r, nd.sublist hs, fun a ha => al a (hs.subset ha)⟩, q.sr.ty, q.sr.src, q.sr.keep, q.sr.pin, q.sr.ln⟩, q.keep, q.new, q.pu⟩
def ixR : BR := fun x y K _ ρ => match y with
  | .v (.int i) => (match x with
    | .v (.str z) => z.length ≤ sizeLine ∧ (match atI z.cps.toList i with
      | some ch => K (.v (.str ⟨#[ch]⟩)) ρ
      | none => False)
    | .m (.t ss) => (match (atI ss i).bind slEV with
      | some ev => K ev ρ
      | none => False)
    | x => (match asT x with
      | some ds => (match atI ds i with
        | some d => K (.v d) ρ
        | none => False)
      | none => (match asL x with
        | some ds => (match atI ds i with
          | some d => K (.v d) ρ
          | none => False)
        | none => False)))
  | _ => False
theorem ixR_mono : MonoR ixR := fun x y ρ K K' E E' hk _ h => by
  unfold ixR at h ⊢
  split at h
  · split at h
    · refine ⟨h.1, ?_⟩
      have h2 := h.2
      split at h2
      · exact hk _ _ h2
      · exact h2
    · split at h
      · exact hk _ _ h
      · exact h
    · split at h
      · split at h
        · exact hk _ _ h
        · exact h
      · split at h
        · split at h
          · exact hk _ _ h
          · exact h
        · exact h
  · exact h
theorem ixR_says (hK : X.K = c.g.K) : Says c (L2.rIx X.K) ixR := by
  intro p σ M T H M2 H2 ρ2 as1 as2 v u x y Q E q r1 r2 h
  unfold ixR at h
  split at h
  · rename_i i
    have eu := r2.int
    split at h
    · rename_i z
      have h2 := h.2
      split at h2
      · rename_i ch e
        exact .inr (.inr ⟨z, i, ch, r1.str, eu, h.1, e, h2 _ H2 M2 [] q.drop.drop (.v (.str _))⟩)
      · exact h2.elim
    · rename_i ss
      split at h
      · rename_i ev e
        cases r1 with
        | m r1 =>
        cases r1 with
        | t ht r1 =>
        rename_i a vs
        cases e2 : atI ss i with
        | none => rw [e2] at e; cases e
        | some s =>
          rw [e2] at e
          obtain ⟨j, j1, j2⟩ := ixN_of (n := 0) e2
          obtain ⟨w, bs, w1, w2, w3⟩ := r1.get' j2
          have ew : atI vs i = some w := by unfold L2.atI; rw [r1.length, j1]; exact w1
          exact .inr (.inl ⟨a, vs, i, w, rfl, eu, hK ▸ ht, ew, h w H2 M2 bs (q.drop.sub w3) (w2.ev e)⟩)
      · exact h.elim
    · split at h
      · rename_i ds e
        obtain ⟨a, vs, ev, t, rs⟩ := r1.tuple e
        split at h
        · rename_i d ed
          obtain ⟨w, w1, w2⟩ := atI_reps rs ed
          exact .inr (.inl ⟨a, vs, i, w, ev, eu, hK ▸ t, w1, h w H2 M2 [] q.drop.drop (.v w2)⟩)
        · exact h.elim
      · split at h
        · rename_i ds e
          obtain ⟨a, vs, ev, t, rs⟩ := r1.list e
          split at h
          · rename_i d ed
            obtain ⟨w, w1, w2⟩ := atI_reps rs ed
            exact .inl ⟨a, vs, i, w, ev, eu, hK ▸ t, w1, h w H2 M2 [] q.drop.drop (.v w2)⟩
          · exact h.elim
        · exact h.elim
  · exact h.elim
theorem ej_ix {a b : Expr} {f g : ES} {pos : Pos} (hK : X.K = c.g.K) (hs : L2.PlainIx b) (ha : EJ X c W p1 a f) (hb : EJ X c W p2 b g) : EJ X c W (p1 && p2) (.Subscript a b pos) (bin p2 f g ixR) :=
  ej_bin ha hb (fun h1 h2 => L2.pe_ix L2.ix_seq h1 h2 hs) ixR_mono fun σ M T H M2 H2 ρ2 as1 as2 v u x y Q E => ixR_says hK (p1 && p2) σ M T H M2 H2 ρ2 as1 as2 v u x y Q E
end
/-! ### built-in calls by values -/
abbrev CR := List EV → (EV → Rho → Prop) → (Exc → Rho → Prop) → Rho → Prop
def MonoC (R : CR) : Prop := ∀ xs ρ K K' E E', (∀ x ρ', K x ρ' → K' x ρ') → (∀ x ρ', E x ρ' → E' x ρ') → R xs K E ρ → R xs K' E' ρ
def SaysC (c : Fr) (r : List V → Hp → VK → Prop) (R : CR) : Prop := ∀ (p : Bool) σ M T H M2 H2 ρ2 as vs xs Q E, Post c p σ M T H M2 (as ++ T) H2 ρ2 → VRs c M2 H2 vs xs as →
  R xs (fun ev ρ' => ∀ v H' M' as, Post c p σ M T H M' (as ++ T) H' ρ' → VR c M' H' v ev as → Q v H') E ρ2 → r vs H2 Q
def callV (R : CR) (g : AS) : ES := fun ρ K E => g ρ (fun xs ρ' => R xs K E ρ') E
section
variable {X : Cx} {c : Fr} {W : WX} {p p1 p2 : Bool} {e : Expr} {es : List Expr} {g : AS} {R : CR} {r : List V → Hp → VK → Prop} {x : Str} {ps pos : Pos}
theorem callV_run (ha : AJ X c W p (e :: es) g) (hR : SaysC c r R) : ∀ σ H Q, rdE c W p (callV R g) σ H Q → L2.tCB r (rdA c W p g) σ H Q := by
  rintro σ H Q ⟨ρ, M, T, s, h⟩
  exact ⟨ρ, M, T, s, ha.mono _ _ _ _ _ (fun xs ρ' k vs H' M' as q rs => hR p σ M T H M' H' ρ' as vs xs Q _ q rs k) (fun _ _ h => h) h⟩
theorem ej_callB {id : String} (hc : CallR X (.builtin id) r) (hM : MonoC R) (hR : SaysC c r R) (hg : L2.Gl X x) (hm : X.mg x = none) (hv : bootBuiltins x = some (.builtin id)) (ha : AJ X c W p (e :: es) g) (hn : x ≠ "__name__" := by decide) (hdb : (x == ("__debug__" : Str)) = false := by decide)
    (he : starEach (e :: es) X.env = (false, eval e X.env) :: starEach es X.env := by rfl) (hpl : (backTo pos (starEach es X.env)).any (·.1) = false := by rfl) : EJ X c W p (.Call (.Name x ps) (e :: es) [] pos) (callV R g) :=
  ⟨fun ρ K K' E E' hk hx q => ha.mono _ _ _ _ _ (fun xs ρ' q => hM _ _ _ _ _ _ hk hx q) hx q, PE.imp (L2.pe_callB hc hg hm hv ha.run hn hdb he hpl) (callV_run ha hR)⟩
end
section
variable {X : Cx} {c : Fr} {W : WX} {M : Addr → Prop} {H : Hp} {as : List Addr}
theorem VRs.one {vs : List V} {x : EV} (r : VRs c M H vs [x] as) : ∃ v, vs = [v] ∧ VR c M H v x as := by
  cases r with
  | cons r rs => cases rs; exact ⟨_, rfl, by simpa using r⟩
theorem VRs.two {vs : List V} {x y : EV} (r : VRs c M H vs [x, y] as) : ∃ v u as1 as2, vs = [v, u] ∧ VR c M H v x as1 ∧ VR c M H u y as2 ∧ as = as2 ++ as1 := by
  cases r with
  | cons r rs =>
    obtain ⟨u, rfl, r2⟩ := rs.one
    exact ⟨_, _, _, _, rfl, r, r2, rfl⟩
/-! len -/
def lenC : CR := fun xs K _ ρ => match xs with
  | [.v (.str z)] => z.length ≤ sizeLine ∧ K (.v (.int z.length)) ρ
  | [x] => (match asT x with
    | some ds => K (.v (.int ds.length)) ρ
    | none => (match asL x with
      | some ds => K (.v (.int ds.length)) ρ
      | none => (match x with
        | .m (.t ss) => K (.v (.int ss.length)) ρ
        | _ => False)))
  | _ => False
theorem lenC_mono : MonoC lenC := fun xs ρ K K' E E' hk _ h => by
  unfold lenC at h ⊢
  split at h
  · exact ⟨h.1, hk _ _ h.2⟩
  · split at h
    · exact hk _ _ h
    · split at h
      · exact hk _ _ h
      · split at h
        · exact hk _ _ h
        · exact h
  · exact h
theorem lenC_says (hK : X.K = c.g.K) : SaysC c (fun xs H Q => ∃ x n, xs = [x] ∧ L2.LenV X.K x H n ∧ Q (.int n) H) lenC := by
  intro p σ M T H M2 H2 ρ2 as vs xs Q E q r h
  unfold lenC at h
  split at h
  · obtain ⟨v, rfl, r1⟩ := r.one
    have e := r1.str
    subst e
    exact ⟨_, _, rfl, ⟨h.1, rfl⟩, h.2 _ H2 M2 [] q.drop (.v (.int _))⟩
  · obtain ⟨v, rfl, r1⟩ := r.one
    split at h
    · rename_i ds e
      obtain ⟨a, vs, rfl, t, rs⟩ := r1.tuple e
      refine ⟨_, _, rfl, .inr ⟨vs, hK ▸ t, rfl⟩, ?_⟩
      rw [rs.length]
      exact h _ H2 M2 [] q.drop (.v (.int _))
    · split at h
      · rename_i ds e
        obtain ⟨a, vs, rfl, t, rs⟩ := r1.list e
        refine ⟨_, _, rfl, .inl ⟨vs, hK ▸ t, rfl⟩, ?_⟩
        rw [rs.length]
        exact h _ H2 M2 [] q.drop (.v (.int _))
      · split at h
        · cases r1 with
          | m r1 =>
          cases r1 with
          | t ht rs =>
          refine ⟨_, _, rfl, .inr ⟨_, hK ▸ ht, rfl⟩, ?_⟩
          rw [rs.length]
          exact h _ H2 M2 [] q.drop (.v (.int _))
        · exact h.elim
  · exact h.elim
/-! isinstance of data, one built-in class -/
def tyN : D → Option String
  | .non => some "NoneType"
  | .bl _ => some "bool"
  | .int _ => some "int"
  | .str _ => some "str"
  | .tup _ => some "tuple"
  | .lst _ _ => some "list"
  | .dct _ _ => some "dict"
  | .ex _ _ _ => none
  | .ty _ => none
  | .fn _ => none
theorem Rep.tyx {g : Ge} {Z : Addr → Prop} {v : V} {d : D} {n : String} (r : Rep g Z M H v d) (e : tyN d = some n) : L2.TyX g.K H v (.type n) := by
  cases r with
  | non => cases e; exact .base .non
  | bl b => cases e; exact .base (.bl b)
  | int i => cases e; exact .base (.int i)
  | str s => cases e; exact .base (.str s)
  | ty _ => cases e
  | fn _ => cases e
  | tup h r =>
    cases e
    rcases h with (h | ⟨o, h⟩) | ⟨o, its, n, h1, h2, _⟩
    · exact .base (.tup h)
    · exact .fTuple h
    · exact .kTuple h1 h2
  | lst h r =>
    cases e
    rcases h with ⟨h, _⟩ | ⟨o, h⟩ | ⟨o, its, n, h1, h2, _⟩
    · exact .base (.lst h)
    · exact .base (.frz h)
    · exact .kList h1 h2
  | dct h _ _ _ => cases e; exact .base (.dK h)
  | ex0 _ _ _ => cases e
  | ex1 _ _ _ _ _ _ _ => cases e
def isiC (kb : String → String → Option Bool) : CR := fun xs K _ ρ => match xs with
  | [x, .v (.ty T)] => (match (asD x).bind tyN with
    | some n => (match kb n T with
      | some b => K (.v (.bl b)) ρ
      | none => False)
    | none => False)
  | _ => False
theorem VR.ty {v : V} {x : EV} {d : D} {n : String} (r : VR c M H v x as) (e : asD x = some d) (k : tyN d = some n) : L2.TyX c.g.K H v (.type n) := by
  cases r with
  | v r => cases e; exact r.tyx k
  | b l r =>
    cases e; cases k
    exact .base (.lst l)
  | m r =>
    cases r with
    | v r => rw [asD, frSl] at e; cases e; exact r.tyx k
    | l h r => rw [asD, frSl] at e; cases e; cases k; exact .base (.lst h)
    | @t a vs ss as h r =>
      rw [asD, frSl] at e
      cases q : frSls ss with
      | none => rw [q] at e; cases e
      | some ds =>
        rw [q] at e; cases e; cases k
        rcases h with (h | ⟨o, h⟩) | ⟨o, its, n, h1, h2, _⟩
        · exact .base (.tup h)
        · exact .fTuple h
        · exact .kTuple h1 h2
    | o _ _ _ _ _ => rw [asD, frSl] at e; cases e
    | dt _ _ _ _ => rw [asD, frSl] at e; cases e
    | @ll a vs ss as h r =>
      rw [asD, frSl] at e
      cases q : frSls ss with
      | none => rw [q] at e; cases e
      | some ds => rw [q] at e; cases e; cases k; exact .base (.lst h)
/-- what the built-in kinds are of one another -/
def kb (a b : String) : Option Bool := match a, b with
  | "int", "int" => some true
  | "bool", "int" => some true
  | "str", "int" => some false
  | "NoneType", "int" => some false
  | "tuple", "int" => some false
  | "list", "int" => some false
  | "dict", "int" => some false
  | "int", "bool" => some false
  | "bool", "bool" => some true
  | "str", "bool" => some false
  | "NoneType", "bool" => some false
  | "tuple", "bool" => some false
  | "list", "bool" => some false
  | "dict", "bool" => some false
  | "int", "str" => some false
  | "bool", "str" => some false
  | "str", "str" => some true
  | "NoneType", "str" => some false
  | "tuple", "str" => some false
  | "list", "str" => some false
  | "dict", "str" => some false
  | "int", "tuple" => some false
  | "bool", "tuple" => some false
  | "str", "tuple" => some false
  | "NoneType", "tuple" => some false
  | "tuple", "tuple" => some true
  | "list", "tuple" => some false
  | "dict", "tuple" => some false
  | "int", "list" => some false
  | "bool", "list" => some false
  | "str", "list" => some false
  | "NoneType", "list" => some false
  | "tuple", "list" => some false
  | "list", "list" => some true
  | "dict", "list" => some false
  | _, _ => none
end
end VS
set_option Elab.async false
set_option linter.all false
set_option maxRecDepth 100000
set_option maxHeartbeats 4000000
/-! VS6: what a def promises, calls of defs that change nothing of what they are handed; statements. Own work. -/
namespace VS
open PySem PySem.Spec PyProof.Rows
open L2 (V Hp HO upd SqL SqT Rd Cx TE TT TA TS VK XK WX PE PT PA PS PSs OpR RelV CallR Sp FnOk atI)
def pick {α : Type} : List Bool → List α → List α
  | true :: m, x :: xs => x :: pick m xs
  | false :: m, _ :: xs => pick m xs
  | _, _ => []
def retEV : EV → Bool
  | .v d => retOk d
  | .m s => retSl s
  | _ => false
/-- what a def does: from its arguments, to what it yields and what became of those that it may change -/
abbrev FS := List Sl → (EV → List Sl → Prop) → (Exc → List Sl → Prop) → Prop
def MonoF (F : FS) : Prop := ∀ ss K K' E E', (∀ x ts, K x ts → K' x ts) → (∀ x ts, E x ts → E' x ts) → F ss K E → F ss K' E'
/-- behind a call; as: what was owned of the arguments, ias: what is, ras: what the yielded thing owns -/
structure CPost (g : Ge) (Z : Addr → Prop) (mask : List Bool) (vs : List V) (as : List Addr) (H H' : Hp) (ts : List Sl) (ias ras : List Addr) : Prop where
  keep : ∀ b o, H b = some o → b ∉ as → H' b = some o
  io : RepOs g Z (fun a => a ∈ ras ++ ias) H' (pick mask vs) ts ias
  nd : (ras ++ ias).Nodup
  new : ∀ a ∈ ras ++ ias, a ∈ as ∨ H a = none
  ret : retSls ts = true
def spV (g : Ge) (mask : List Bool) (F : FS) : Sp := fun vs H Q E => ∃ (Z : Addr → Prop) (ss : List Sl) (as : List Addr),
  (∀ a, Z a → H a ≠ none) ∧ (∀ a ∈ as, ¬ Z a) ∧ RepOs g Z (fun a => a ∈ as) H vs ss as ∧ as.Nodup ∧ ss.length = mask.length ∧
  F ss (fun x ts => ∀ v H' ras ias, CPost g Z mask vs as H H' ts ias ras → VRg g Z (fun a => a ∈ ras ++ ias) H' v x ras → retEV x = true → Q v H')
    (fun x ts => ∀ cls dd H' ias, CPost g Z mask vs as H H' ts ias [] → XRg g Z (fun a => a ∈ ias) H' cls dd x → retOks x.ds = true → E cls dd H')
/-! ### calls of defs that change nothing -/
def argD : EV → Option D
  | .v d => some d
  | .b ds => some (.lst false ds)
  | .m s => frSl s
  | .p _ => none
def argDs : List EV → Option (List D)
  | [] => some []
  | x :: xs => (argD x).bind fun d => (argDs xs).map (d :: ·)
def callP (F : FS) (dd : List D) (g : AS) : ES := fun ρ K E => g ρ (fun xs ρ1 => match argDs xs with
  | some ds => F ((ds ++ dd).map .v) (fun x _ => K x ρ1) (fun x _ => E x ρ1)
  | none => False) E
section
variable {X : Cx} {c : Fr} {W : WX} {p p1 p2 : Bool} {M M' M2 : Addr → Prop} {T T' as as1 as2 : List Addr} {σ : L2.St} {H H' H2 : Hp} {ρ ρ' ρ2 : Rho}
theorem SR.noZ (s : SR c M T σ H ρ) {a : Addr} (h : M a) : ¬ c.Z a := fun z => by
  rcases s.src a h with q | q
  · exact c.zi a q z
  · exact c.zd a z q
theorem VRs.argDs : ∀ {vs : List V} {xs : List EV} {as : List Addr} {ds : List D}, VRs c M H vs xs as → argDs xs = some ds → (∀ a ∈ as, ¬ c.Z a) →
    Reps c.g (fun a => c.Z a ∨ (M a ∧ a ∉ as)) (fun _ => False) H vs ds
  | _, _, _, _, .nil, e, _ => by rw [VS.argDs] at e; cases e; exact .nil
  | _, x :: xs, _, _, .cons (as := as1) (bs := as2) r rs, e, hz => by
    rw [VS.argDs] at e
    cases q : argD x with
    | none => rw [q] at e; cases e
    | some d =>
      cases q2 : VS.argDs xs with
      | none => rw [q, q2] at e; cases e
      | some ds =>
        rw [q, q2] at e; cases e
        have rs' := rs.argDs q2 (fun a h => hz a (List.mem_append_left _ h))
        refine .cons ?_ (rs'.re (fun _ _ z => z) fun a _ _ h k => h ?_)
        · cases r with
          | v r => cases q; exact r.re (fun _ _ _ z => z) fun a _ n z k => k.elim z fun y => n y.1
          | b l r =>
            cases q
            have r' : Reps c.g (fun a => c.Z a ∨ (M a ∧ a ∉ as2 ++ [])) (fun _ => False) H _ _ := r.re (fun _ _ _ z => z) fun a _ n z k => k.elim z fun y => n y.1
            exact .lst (.inl ⟨l, fun z => z, fun z => nomatch z⟩) r'
          | m r =>
            have r' : RepO c.g (fun a => c.Z a ∨ (M a ∧ a ∉ as2 ++ as1)) (fun _ => False) H _ _ as1 := r.re (fun _ _ _ z => z) fun a _ n z k => k.elim z fun y => n y.1
            exact r'.freeze q fun a ha => ⟨fun z => z, fun k => k.elim (hz a (List.mem_append_right _ ha)) fun y => y.2 (List.mem_append_right _ ha)⟩
        · rcases k with k | ⟨k1, k2⟩
          · exact .inl k
          · exact .inr ⟨k1, fun y => k2 (List.mem_append_left _ y)⟩
theorem repOs_v {g : Ge} {Z : Addr → Prop} : ∀ {vs : List V} {ds : List D}, Reps g Z M H vs ds → RepOs g Z M H vs (ds.map .v) []
  | _, _, .nil => .nil
  | _, _, .cons r rs => .cons (as := []) (bs := []) (.v r) (repOs_v rs)
theorem pick_no {α : Type} : ∀ {m : List Bool} {xs : List α}, (∀ b ∈ m, b = false) → pick m xs = []
  | [], _, _ => by unfold pick; rfl
  | true :: _, _, h => absurd (h true List.mem_cons_self) (by simp)
  | false :: m, [], _ => rfl
  | false :: m, _ :: xs, h => pick_no (xs := xs) fun b hb => h b (List.mem_cons_of_mem _ hb)
/-- behind a call that changed nothing: the temporaries of the arguments are nobody's -/
theorem Post.call {ras : List Addr} (q : Post c p σ M T H M' (as ++ T) H' ρ') (x : Ext H' H2) (nd : ras.Nodup) (new : ∀ a ∈ ras, H' a = none) (ty : ∀ a ∈ ras, Typed H2 a) :
    Post c p σ M T H (fun a => (M' a ∧ a ∉ as) ∨ a ∈ ras) (ras ++ T) H2 ρ' := by
  obtain ⟨Ms, r, ndM, al⟩ := q.sr.slots
  obtain ⟨n1, n2, n3⟩ := List.nodup_append.mp ndM
  obtain ⟨m1, m2, m3⟩ := List.nodup_append.mp n2
  have r1 : RepS c.g c.Z (fun a => M' a ∧ a ∉ as) H' σ ρ' Ms := r.re (fun _ _ n z => n z.1) fun _ _ _ z => z
  have mv : Moved (fun _ => False) (fun a => M' a ∧ a ∉ as) (fun a => (M' a ∧ a ∉ as) ∨ a ∈ ras) H' H2 := ⟨fun b o e _ => x b o e, fun _ h => h.elim, fun _ h => h.elim, fun a h => h.imp id (new a)⟩
  have tr : ∀ a, M' a → a ∉ ras := fun a h z => (q.sr.ty a h).ne (new a z)
  refine ⟨⟨⟨Ms, r1.moved mv fun _ _ z => z, ?_, fun a ha => ?_⟩, fun a ha => ?_, fun a ha => ?_, fun b o e h => x b o (q.sr.keep b o e h), q.sr.pin, q.sr.ln⟩, fun b o e h => x b o (q.keep b o e h), fun a ha => ?_, fun e => (q.pu e).trans x⟩
  · refine List.nodup_append.mpr ⟨n1, List.nodup_append.mpr ⟨nd, m2, fun a ha b hb e => tr b (al b (List.mem_append_right _ (List.mem_append_right _ hb))) (e ▸ ha)⟩, fun a ha b hb e => ?_⟩
    rcases List.mem_append.mp hb with hb | hb
    · exact tr a (al a (List.mem_append_left _ ha)) (e ▸ hb)
    · exact n3 a ha b (List.mem_append_right _ hb) e
  · rcases List.mem_append.mp ha with ha | ha
    · exact .inl ⟨al a (List.mem_append_left _ ha), fun z => n3 a ha a (List.mem_append_left _ z) rfl⟩
    · rcases List.mem_append.mp ha with ha | ha
      · exact .inr ha
      · exact .inl ⟨al a (List.mem_append_right _ (List.mem_append_right _ ha)), fun z => m3 a z a ha rfl⟩
  · rcases ha with ha | ha
    · rcases q.sr.ty a ha.1 with ⟨_, e⟩ | ⟨_, _, _, e⟩ | ⟨_, e⟩
      · exact .inl ⟨_, x _ _ e⟩
      · exact .inr (.inl ⟨_, _, _, x _ _ e⟩)
      · exact .inr (.inr ⟨_, x _ _ e⟩)
    · exact ty a ha
  · rcases ha with ha | ha
    · exact q.sr.src a ha.1
    · by_cases z : a ∈ c.io
      · exact .inl z
      · refine .inr ?_
        cases e : c.H0 a with
        | none => rfl
        | some u => have := q.sr.keep a u e z; rw [new a ha] at this; cases this
  · rcases ha with ha | ha
    · exact q.new a ha.1
    · by_cases z : M a
      · exact .inl z
      · refine .inr ?_
        cases e : H a with
        | none => rfl
        | some u => have := q.keep a u e (fun y => absurd y z); rw [new a ha] at this; cases this
theorem VRg.back {g : Ge} {Z Z' : Addr → Prop} (hM : ∀ a, H a ≠ none → ¬ M a → ¬ Z a → ¬ M' a) (hZ : ∀ a, H a ≠ none → ¬ M a → ¬ Z a → ¬ Z' a) {v : V} {x : EV} {as : List Addr} (r : VRg g Z M H v x as) (k : retEV x = true) : VRg g Z' M' H v x as := by
  cases r with
  | v r => exact .v (r.back hM hZ k)
  | b _ _ => exact absurd k (by simp [retEV])
  | m r => exact .m (r.back hM hZ k)
theorem VRg.typed {g : Ge} {Z : Addr → Prop} {v : V} {x : EV} {as : List Addr} (r : VRg g Z M H v x as) : ∀ a ∈ as, Typed H a := by
  cases r with
  | v _ => exact fun a h => absurd h (by simp)
  | b _ _ => exact fun a h => absurd h (by simp)
  | m r => exact r.typed
theorem XRg.back {g : Ge} {Z Z' : Addr → Prop} (hM : ∀ a, H a ≠ none → ¬ M a → ¬ Z a → ¬ M' a) (hZ : ∀ a, H a ≠ none → ¬ M a → ¬ Z a → ¬ Z' a) {cls : Value} {dd : Option Addr} {x : Exc} (r : XRg g Z M H cls dd x) (k : retOks x.ds = true) : XRg g Z' M' H cls dd x := by
  cases r with
  | no h => exact .no h
  | yes h h1 h2 h3 r => exact .yes h h1 h2 h3 (r.back hM hZ k)
theorem callP_run {mask : List Bool} {F : FS} {dvs : List V} {dd : List D} (hdd : ∀ Z M H, Reps c.g Z M H dvs dd) {es : List Expr} {g : AS} {E : L2.St → XK} (hm : ∀ b ∈ mask, b = false) (hF : MonoF F) (hl : ∀ ss K E, F ss K E → ss.length = mask.length) (ha : AJ X c W p es g) (hE : ∀ σ cls dd H, W cls dd σ H → E σ cls dd H) :
    ∀ σ H Q, rdE c W p (callP F dd g) σ H Q → rdA c W p g σ H (fun vs H1 => spV c.g mask F (vs ++ dvs) H1 Q (E σ)) := by
  rintro σ H Q ⟨ρ, M, T, s, h⟩
  refine ⟨ρ, M, T, s, ha.mono _ _ _ _ _ (fun xs ρ1 k vs H1 M1 as q r => ?_) (fun _ _ h => h) h⟩
  split at k
  · rename_i ds e
    have hz : ∀ a ∈ as, ¬ c.Z a := fun a ha => by
      obtain ⟨Ms, _, _, al⟩ := q.sr.slots
      exact q.sr.noZ (al a (List.mem_append_right _ (List.mem_append_left _ ha)))
    have r' := (r.argDs e hz).append (hdd (fun a => c.Z a ∨ (M1 a ∧ a ∉ as)) (fun _ => False) H1)
    refine ⟨fun a => c.Z a ∨ (M1 a ∧ a ∉ as), (ds ++ dd).map .v, [], fun a z => ?_, fun _ h => absurd h (by simp), (repOs_v r').re (fun _ _ _ z => absurd z (by simp)) (fun _ _ _ z => z), .nil, hl _ _ _ k, hF _ _ _ _ _ (fun x ts k v H2 ras ias cp rv re => ?_) (fun x ts k cls dd H2 ias cp rx re => ?_) k⟩
    · rcases z with z | z
      · intro e2
        by_cases y : a ∈ c.io
        · exact c.zi a y z
        · cases e3 : c.H0 a with
          | none => exact c.zd a z e3
          | some o => have := q.sr.keep a o e3 y; rw [e2] at this; cases this
      · exact (q.sr.ty a z.1).ne
    · have ei : ias = [] ∧ ts = [] := by
        have := cp.io
        rw [pick_no hm] at this
        cases this; exact ⟨rfl, rfl⟩
      obtain ⟨rfl, rfl⟩ := ei
      have x2 : Ext H1 H2 := fun b o e => cp.keep b o e (by simp)
      have new : ∀ a ∈ ras, H1 a = none := fun a ha => by
        rcases cp.new a (List.mem_append_left _ ha) with z | z
        · exact absurd z (by simp)
        · exact z
      have nd : ras.Nodup := by simpa using cp.nd
      refine k v H2 (fun a => (M1 a ∧ a ∉ as) ∨ a ∈ ras) ras (q.call x2 nd new rv.typed) (rv.back (fun a _ n z y => ?_) (fun a _ n z y => z (.inl y)) re)
      rcases y with y | y
      · exact z (.inr y)
      · exact n (List.mem_append_left _ y)
    · have ei : ias = [] ∧ ts = [] := by
        have := cp.io
        rw [pick_no hm] at this
        cases this; exact ⟨rfl, rfl⟩
      obtain ⟨rfl, rfl⟩ := ei
      have x2 : Ext H1 H2 := fun b o e => cp.keep b o e (by simp)
      have q2 := q.weak.call x2 (ras := []) .nil (fun a h => absurd h (by simp)) (fun a h => absurd h (by simp))
      refine hE _ _ _ _ (k cls dd H2 _ q2 (rx.back (fun a _ n z y => ?_) (fun a _ n z y => z (.inl y)) re))
      rcases y with y | y
      · exact z (.inr y)
      · exact absurd y (by simp)
  · exact k.elim
theorem callP_mono {F : FS} {dd : List D} {g : AS} (hF : MonoF F) (hg : MonoA g) : Mono (callP F dd g) := fun ρ K K' E E' hk he h => hg _ _ _ _ _ (fun xs ρ1 h => by
  split at h
  · exact hF _ _ _ _ _ (fun x _ h => hk _ _ h) (fun x _ h => he _ _ h) h
  · exact h) he h
/-- f(e, ..): the def at f; dd: what its defaults stand for -/
theorem ej_callP {mask : List Bool} {F : FS} {k : Nat} {f : Addr} {fd : FuncData} {ps : List Str} {x : Str} {pp pos : Pos} {e : Expr} {es : List Expr} {g : AS} {dvs : List V} {dus : List Value} {dd : List D} (hF : MonoF F) (hl : ∀ ss K E, F ss K E → ss.length = mask.length) (hm : ∀ b ∈ mask, b = false)
    (G : FnOk X.prog X.w X.K X.mg X.base (L2.CX X.prog X.w) k f fd ps (spV c.g mask F)) (hr : L2.Room k X.A) (hg : L2.Gl X x) (hmg : X.mg x = some (.ref f)) (hk : PySem.W.keepIn X.K (.ref f) = true) (hb : L2.Binds X.K fd ps dus) (hd : L2.Vals dvs dus) (hdd : ∀ Z M H, Reps c.g Z M H dvs dd) (tk : L2.Takes X W)
    (ha : AJ X c W p (e :: es) g) (hdb : (x == ("__debug__" : Str)) = false := by decide) (he : starEach (e :: es) X.env = (false, eval e X.env) :: starEach es X.env := by rfl) (hpl : (backTo pos (starEach es X.env)).any (·.1) = false := by rfl) :
    EJ X c W p (.Call (.Name x pp) (e :: es) [] pos) (callP F dd g) :=
  ⟨callP_mono hF ha.mono, PE.imp (L2.pe_callSD (E := L2.WE W) G hr hg hmg hk hb hd (fun σ => L2.passAt tk σ) ha.run hdb he hpl) (callP_run hdd hm hF hl ha fun _ _ _ _ h => h)⟩
end
/-! ### statements -/
structure SK where
  nx : Rho → Prop
  rt : EV → Rho → Prop
  ex : Exc → Rho → Prop
  bk : Rho → Prop
  ct : Rho → Prop
def SK.le (a b : SK) : Prop := (∀ ρ, a.nx ρ → b.nx ρ) ∧ (∀ x ρ, a.rt x ρ → b.rt x ρ) ∧ (∀ x ρ, a.ex x ρ → b.ex x ρ) ∧ (∀ ρ, a.bk ρ → b.bk ρ) ∧ (∀ ρ, a.ct ρ → b.ct ρ)
abbrev SS := Rho → SK → Prop
def MonoS (f : SS) : Prop := ∀ ρ k k', SK.le k k' → f ρ k → f ρ k'
theorem SK.le.refl (k : SK) : SK.le k k := ⟨fun _ h => h, fun _ _ h => h, fun _ _ h => h, fun _ h => h, fun _ h => h⟩
/-- the ends of a statement from (M, T, H) -/
def skOf (c : Fr) (W : WX) (D : L2.Ends) (M : Addr → Prop) (T : List Addr) (H : Hp) : SK where
  nx ρ' := ∀ σ' H' M', Post c false σ' M T H M' T H' ρ' → D.nx σ' H'
  rt x ρ' := ∀ σ' v H' M' as, Post c false σ' M T H M' (as ++ T) H' ρ' → VR c M' H' v x as → D.rt v H'
  ex x ρ' := ∀ σ' cls dd H' M', Post c false σ' M T H M' T H' ρ' → XRep c M' H' cls dd x → W cls dd σ' H'
  bk ρ' := ∀ σ' H' M', Post c false σ' M T H M' T H' ρ' → D.bk σ' H'
  ct ρ' := ∀ σ' H' M', Post c false σ' M T H M' T H' ρ' → D.ct σ' H'
def rdS (c : Fr) (W : WX) (f : SS) : TS := fun D σ H => ∃ ρ M T, SR c M T σ H ρ ∧ f ρ (skOf c W D M T H)
structure SJ (X : Cx) (c : Fr) (W : WX) (st : Stmt) (f : SS) : Prop where
  mono : MonoS f
  run : PS X st (rdS c W f)
structure SJs (X : Cx) (c : Fr) (W : WX) (sts : List Stmt) (f : SS) : Prop where
  mono : MonoS f
  run : PSs X sts (rdS c W f)
theorem PS.imp {X : Cx} {st : Stmt} {t t' : TS} (h : PS X st t) (i : ∀ D σ H, t' D σ H → t D σ H) : PS X st t' := ⟨fun pins s σ H D I q => h.run pins s σ H D I (i D σ H q)⟩
theorem PSs.imp {X : Cx} {st : List Stmt} {t t' : TS} (h : PSs X st t) (i : ∀ D σ H, t' D σ H → t D σ H) : PSs X st t' := ⟨fun pins s σ H D I q => h.run pins s σ H D I (i D σ H q)⟩
section
variable {X : Cx} {c : Fr} {W : WX} {p p1 p2 : Bool} {M M1 M' M2 : Addr → Prop} {T T' as as1 as2 : List Addr} {σ σ1 : L2.St} {H H1 H' H2 : Hp} {ρ ρ1 ρ' ρ2 : Rho} {De : L2.Ends}
/-- from a state on the way to the ends: what is wanted of the rest -/
theorem skOf_after (q : Post c p σ1 M T H M1 T H1 ρ1) : SK.le (skOf c W De M T H) (skOf c W De M1 T H1) :=
  ⟨fun ρ' k σ' H' M' q2 => k σ' H' M' (q.trans q2 fun _ z => z).weak, fun x ρ' k σ' v H' M' as q2 r => k σ' v H' M' as (q.trans q2 fun _ z => z).weak r,
   fun x ρ' k σ' cls dd H' M' q2 r => k σ' cls dd H' M' (q.trans q2 fun _ z => z).weak r, fun ρ' k σ' H' M' q2 => k σ' H' M' (q.trans q2 fun _ z => z).weak, fun ρ' k σ' H' M' q2 => k σ' H' M' (q.trans q2 fun _ z => z).weak⟩
def nxS : SS := fun ρ k => k.nx ρ
def seqS (f g : SS) : SS := fun ρ k => f ρ { k with nx := fun ρ' => g ρ' k }
theorem seqS_mono {f g : SS} (hf : MonoS f) (hg : MonoS g) : MonoS (seqS f g) := fun ρ k k' l h => hf _ { k with nx := fun ρ' => g ρ' k } _ ⟨fun ρ' q => hg _ _ _ l q, l.2.1, l.2.2.1, l.2.2.2.1, l.2.2.2.2⟩ h
theorem sjs_nil : SJs X c W [] nxS := ⟨fun ρ k k' l h => l.1 _ h, PSs.imp L2.pss_nil fun D σ H ⟨ρ, M, T, s, h⟩ => h σ H M (Post.refl s)⟩
theorem sjs_one {st : Stmt} {f : SS} (h : SJ X c W st f) : SJs X c W [st] f := ⟨h.mono, L2.pss_one h.run⟩
theorem sjs_cons {st : Stmt} {sts : List Stmt} {f g : SS} (h : SJ X c W st f) (hs : SJs X c W sts g) : SJs X c W (st :: sts) (seqS f g) := by
  refine ⟨seqS_mono h.mono hs.mono, PSs.imp (L2.pss_cons h.run hs.run) ?_⟩
  rintro D σ H ⟨ρ, M, T, s, k⟩
  exact ⟨ρ, M, T, s, h.mono _ { skOf c W D M T H with nx := fun ρ' => g ρ' (skOf c W D M T H) } _ ⟨fun ρ' k σ' H' M' q => ⟨ρ', M', T, q.sr, hs.mono _ _ _ (skOf_after q) k⟩, fun _ _ h => h, fun _ _ h => h, fun _ h => h, fun _ h => h⟩ k⟩
def bkS : SS := fun ρ k => k.bk ρ
def ctS : SS := fun ρ k => k.ct ρ
/-- an expression, its value dropped -/
def exprS (f : ES) : SS := fun ρ k => f ρ (fun _ ρ' => k.nx ρ') k.ex
theorem exc_le (x : Exc) (ρ' : Rho) (h : (skOf c W De M T H).ex x ρ') : ∀ cls dd H' M', Post c false σ M T H M' T H' ρ' → XRep c M' H' cls dd x → W cls dd σ H' := fun cls dd H' M' q r => h σ cls dd H' M' q r
def retS (f : ES) : SS := fun ρ k => f ρ (fun x ρ' => k.rt x ρ') k.ex
theorem sj_ret {e : Expr} {f : ES} {pos : Pos} (h : EJ X c W p e f) : SJ X c W (.Return (some e) pos) (retS f) := by
  refine ⟨fun ρ k k' l q => h.mono _ _ _ _ _ (fun _ _ => l.2.1 _ _) (fun _ _ => l.2.2.1 _ _) q, PS.imp (L2.ps_ret h.run) ?_⟩
  rintro D σ H ⟨ρ, M, T, s, k⟩
  exact ⟨ρ, M, T, s, h.mono _ _ _ _ _ (fun x ρ' k v H' M' as q r => k σ v H' M' as q.weak r) (fun x ρ' k => exc_le x ρ' k) k⟩
def retNS : SS := fun ρ k => k.rt (.v .non) ρ
def ifS (t : BS) (f g : SS) : SS := fun ρ k => t ρ (fun b ρ' => if b = true then f ρ' k else g ρ' k) k.ex
theorem sj_if {ct : Expr} {a b : List Stmt} {t : BS} {f g : SS} {pos : Pos} (hc : TJ X c W p ct t) (ha : SJs X c W a f) (hb : SJs X c W b g) : SJ X c W (.If ct a b pos) (ifS t f g) := by
  refine ⟨fun ρ k k' l q => hc.mono _ _ _ _ _ (fun b ρ' q => ?_) (fun _ _ => l.2.2.1 _ _) q, PS.imp (L2.ps_if hc.run ha.run hb.run) ?_⟩
  · split at q
    · rename_i h; rw [if_pos h]; exact ha.mono _ _ _ l q
    · rename_i h; rw [if_neg h]; exact hb.mono _ _ _ l q
  · rintro D σ H ⟨ρ, M, T, s, k⟩
    refine ⟨ρ, M, T, s, hc.mono _ _ _ _ _ (fun b ρ' k H' M' q => ?_) (fun x ρ' k => exc_le x ρ' k) k⟩
    split at k
    · rename_i h; rw [if_pos h]; exact ⟨ρ', M', T, q.sr, ha.mono _ _ _ (skOf_after q) k⟩
    · rename_i h; rw [if_neg h]; exact ⟨ρ', M', T, q.sr, hb.mono _ _ _ (skOf_after q) k⟩
end
/-! ### what a name is given -/
def evSl : EV → Option Sl
  | .v d => some (.v d)
  | .m s => some s
  | .b _ => none
  | .p _ => none
/-- name = value; fz: what is owned is owned no more -/
def setS (i : Nat) (fz : Bool) (f : ES) : SS := fun ρ k => f ρ (fun x ρ' => match evSl x with
  | some s => (match (if fz then (frSl s).map .v else some s) with
    | some s' => i < ρ'.length ∧ k.nx (ρ'.set i s')
    | none => False)
  | none => False) k.ex
section
variable {X : Cx} {c : Fr} {W : WX} {p p1 p2 : Bool} {M M1 M' M2 : Addr → Prop} {T T' as as1 as2 : List Addr} {σ σ1 : L2.St} {H H1 H' H2 : Hp} {ρ ρ1 ρ' ρ2 : Rho} {De : L2.Ends}
/-- a value on its way goes into a slot -/
theorem Post.put {i : Nat} {v : V} {s : Sl} (q : Post c p σ M T H M' (as ++ T) H' ρ') (r : RepO c.g c.Z M' H' v s as) (hi : i < ρ'.length) (hm : c.mask[i]? ≠ some true) : Post c p (σ.set i (some v)) M T H M' T H' (ρ'.set i s) := by
  obtain ⟨Ms, rs, nd, al⟩ := q.sr.slots
  obtain ⟨n1, n2, n3⟩ := List.nodup_append.mp nd
  obtain ⟨m1, m2, m3⟩ := List.nodup_append.mp n2
  obtain ⟨Ms', rs', h1, h2⟩ := RepS.put r rs hi
  refine ⟨⟨⟨Ms', rs', ?_, fun a ha => ?_⟩, q.sr.ty, q.sr.src, q.sr.keep, fun j hj => ?_, by rw [List.length_set]; exact q.sr.ln⟩, q.keep, q.new, q.pu⟩
  · refine List.nodup_append.mpr ⟨h2 n1 m1 fun a ha z => n3 a z a (List.mem_append_left _ ha) rfl, m2, fun a ha b hb e => ?_⟩
    rcases h1 a ha with z | z
    · exact n3 a z b (List.mem_append_right _ hb) e
    · exact m3 a z b hb e
  · rcases List.mem_append.mp ha with z | z
    · rcases h1 a z with z | z
      · exact al a (List.mem_append_left _ z)
      · exact al a (List.mem_append_right _ (List.mem_append_left _ z))
    · exact al a (List.mem_append_right _ (List.mem_append_right _ z))
  · have ne : i ≠ j := fun e => hm (e ▸ hj)
    rw [List.getElem?_set_ne ne]; exact q.sr.pin j hj
theorem VRg.sl {g : Ge} {Z : Addr → Prop} {v : V} {x : EV} {s : Sl} (r : VRg g Z M H v x as) (e : evSl x = some s) : RepO g Z M H v s as := by
  cases r with
  | v r => cases e; exact .v r
  | b _ _ => cases e
  | m r => cases e; exact r
/-- a value on its way is owned no more -/
theorem Post.frz {v : V} {s : Sl} {d : D} (q : Post c p σ M T H M' (as ++ T) H' ρ') (r : RepO c.g c.Z M' H' v s as) (e : frSl s = some d) : Post c p σ M T H (fun a => M' a ∧ a ∉ as) ([] ++ T) H' ρ' ∧ Rep c.g c.Z (fun a => M' a ∧ a ∉ as) H' v d := by
  have q2 := q.call (Ext.refl _) (ras := []) .nil (fun a h => absurd h (by simp)) (fun a h => absurd h (by simp))
  have eM : (fun a => (M' a ∧ a ∉ as) ∨ a ∈ ([] : List Addr)) = fun a => M' a ∧ a ∉ as := by funext a; simp
  rw [eM] at q2
  refine ⟨q2, (r.re (M' := fun a => M' a ∧ a ∉ as) (fun a _ n z => n z.1) fun _ _ _ z => z).freeze e fun a ha => ⟨fun z => z.2 ha, ?_⟩⟩
  obtain ⟨Ms, _, _, al⟩ := q.sr.slots
  exact q.sr.noZ (al a (List.mem_append_right _ (List.mem_append_left _ ha)))
theorem setS_mono {i : Nat} {fz : Bool} {f : ES} (hf : Mono f) : MonoS (setS i fz f) := fun ρ k k' l q => hf _ _ _ _ _ (fun x ρ' q => by
  split at q
  · split at q
    · exact ⟨q.1, l.1 _ q.2⟩
    · exact q
  · exact q) (fun _ _ => l.2.2.1 _ _) q
theorem setS_run {i : Nat} {fz : Bool} {f : ES} (hf : Mono f) (hm : c.mask[i]? ≠ some true) : ∀ D σ H, rdS c W (setS i fz f) D σ H → rdE c W p f σ H (fun v H1 => D.nx (σ.set i (some v)) H1) := by
  rintro D σ H ⟨ρ, M, T, s, k⟩
  refine ⟨ρ, M, T, s, hf _ _ _ _ _ (fun x ρ' k v H' M' as q r => ?_) (fun x ρ' k => exc_le x ρ' k) k⟩
  split at k
  · rename_i s' e
    have ro := r.sl e
    cases fz with
    | false => exact k.2 _ H' M' (q.weak.put ro k.1 hm)
    | true =>
      cases e2 : frSl s' with
      | none => simp [e2] at k
      | some d =>
        simp only [e2, if_true, Option.map_some] at k
        obtain ⟨q2, r2⟩ := q.weak.frz ro e2
        exact k.2 _ H' _ (q2.put (as := []) (.v r2) k.1 hm)
  · exact k.elim
theorem sj_set {i : Nat} {fz : Bool} {x : Str} {e : Expr} {f : ES} {pos pos' : Pos} (h : EJ X c W p e f) (hm : c.mask[i]? ≠ some true) (hN : X.N.Nodup) (hi : X.N[i]? = some x) (hx : L2.Loc X.env.scope x) (hs : swapsWith e (some (.Name x pos')) pos.line X.env = pure false := by rfl) (hf : X.fn x = true ∨ X.env.scope.names.lookup x = some .local := by first | exact .inl rfl | exact .inr rfl | assumption) :
    SJ X c W (.Assign [.Name x pos'] e pos) (setS i fz f) := ⟨setS_mono h.mono, PS.imp (L2.ps_set hN hi hx h.run hs hf) fun D σ H q => setS_run h.mono hm D σ H q⟩
end
end VS
set_option Elab.async false
set_option linter.all false
set_option maxRecDepth 100000
set_option maxHeartbeats 4000000
/-! VS7: targets, loops. Own work. -/
namespace VS
open PySem PySem.Spec PyProof.Rows
open L2 (V Hp HO upd SqL SqT Rd Cx TE TT TA TS TG TGs VK XK WX PE PT PA PS PSs PG PGs OpR RelV CallR Sp FnOk atI)
/-- the ends of a loop's body: w, what is wanted of the next turn -/
def SK.loop (k : SK) (w : Rho → Prop) : SK := ⟨w, k.rt, k.ex, k.nx, w⟩
/-! ### while -/
def whileN (t : BS) (f : SS) : Nat → SS
  | 0 => fun _ _ => False
  | n + 1 => fun ρ k => t ρ (fun b ρ' => if b = true then f ρ' (k.loop fun ρ2 => whileN t f n ρ2 k) else k.nx ρ') k.ex
def whileS (t : BS) (f : SS) : SS := fun ρ k => ∃ n, whileN t f n ρ k
section
variable {X : Cx} {c : Fr} {W : WX} {p p1 p2 : Bool} {M M1 M' M2 : Addr → Prop} {T T' as as1 as2 : List Addr} {σ σ1 : L2.St} {H H1 H' H2 : Hp} {ρ ρ1 ρ' ρ2 : Rho}
theorem whileN_mono {t : BS} {f : SS} (ht : MonoB t) (hf : MonoS f) : ∀ n, MonoS (whileN t f n)
  | 0 => fun _ _ _ _ h => h.elim
  | n + 1 => fun ρ k k' l h => ht _ _ _ _ _ (fun b ρ' h => by
      split at h
      · rename_i hb; rw [if_pos hb]
        exact hf _ (k.loop fun ρ2 => whileN t f n ρ2 k) (k'.loop fun ρ2 => whileN t f n ρ2 k') ⟨fun ρ2 h => whileN_mono ht hf n _ _ _ l h, l.2.1, l.2.2.1, l.1, fun ρ2 h => whileN_mono ht hf n _ _ _ l h⟩ h
      · rename_i hb; rw [if_neg hb]; exact l.1 _ h) (fun _ _ => l.2.2.1 _ _) h
theorem sj_while {ct : Expr} {body : List Stmt} {t : BS} {f : SS} {pos : Pos} (hp : PassesOwn (model X.prog X.w) X.A X.env X.xe) (hc : TJ X c W p ct t) (hb : SJs X c W body f) : SJ X c W (.While ct body [] pos) (whileS t f) := by
  refine ⟨fun ρ k k' l ⟨n, h⟩ => ⟨n, whileN_mono hc.mono hb.mono n _ _ _ l h⟩, PS.imp (L2.ps_while hp hc.run hb.run) ?_⟩
  rintro D σ H ⟨ρ, M, T, s, n, k⟩
  refine ⟨fun m σ H => ∃ ρ M T, SR c M T σ H ρ ∧ whileN t f m ρ (skOf c W D M T H), ⟨n, ρ, M, T, s, k⟩, ?_⟩
  rintro m σ H ⟨ρ, M, T, s, k⟩
  cases m with
  | zero => exact k.elim
  | succ m =>
    refine ⟨ρ, M, T, s, hc.mono _ _ _ _ _ (fun b ρ' k H1 M1 q => ?_) (fun x ρ' k => exc_le x ρ' k) k⟩
    split at k
    · rename_i hb'; rw [if_pos hb']
      refine ⟨fun σ H => ∃ ρ M T, SR c M T σ H ρ ∧ whileN t f m ρ (skOf c W D M T H), fun σ' H' h => ⟨m, Nat.lt_succ_self m, h⟩, ρ', M1, T, q.sr, hb.mono _ ((skOf c W D M T H).loop fun ρ2 => whileN t f m ρ2 (skOf c W D M T H)) _ ⟨fun ρ2 k σ2 H2 M2 q2 => ?_, fun x ρ2 k => (skOf_after (W := W) (De := D) q).2.1 x ρ2 k, fun x ρ2 k => (skOf_after (W := W) (De := D) q).2.2.1 x ρ2 k, fun ρ2 k => (skOf_after (W := W) (De := D) q).1 ρ2 k, fun ρ2 k σ2 H2 M2 q2 => ?_⟩ k⟩
      · exact ⟨ρ2, M2, T, q2.sr, whileN_mono hc.mono hb.mono m _ _ _ (skOf_after (q.trans q2 fun _ z => z)) k⟩
      · exact ⟨ρ2, M2, T, q2.sr, whileN_mono hc.mono hb.mono m _ _ _ (skOf_after (q.trans q2 fun _ z => z)) k⟩
    · rename_i hb'; rw [if_neg hb']; exact k σ H1 M1 q.weak
end
/-! ### targets -/
abbrev GS := Sl → Rho → (Rho → Prop) → Prop
def MonoG (f : GS) : Prop := ∀ s ρ K K', (∀ ρ', K ρ' → K' ρ') → f s ρ K → f s ρ K'
def rdG (c : Fr) (f : GS) : TG := fun v σ H Q => ∃ ρ M T s as, SR c M (as ++ T) σ H ρ ∧ RepO c.g c.Z M H v s as ∧ f s ρ (fun ρ' => ∀ σ' M', SR c M' T σ' H ρ' → (∀ a, M' a → M a) → Q σ' H)
structure GJ (X : Cx) (c : Fr) (e : Expr) (f : GS) : Prop where
  mono : MonoG f
  run : PG X e (rdG c f)
abbrev GSs := List Sl → Rho → (Rho → Prop) → Prop
def MonoGs (f : GSs) : Prop := ∀ s ρ K K', (∀ ρ', K ρ' → K' ρ') → f s ρ K → f s ρ K'
def rdGs (c : Fr) (f : GSs) : TGs := fun vs σ H Q => ∃ ρ M T ss as, SR c M (as ++ T) σ H ρ ∧ RepOs c.g c.Z M H vs ss as ∧ f ss ρ (fun ρ' => ∀ σ' M', SR c M' T σ' H ρ' → (∀ a, M' a → M a) → Q σ' H)
structure GJs (X : Cx) (c : Fr) (es : List Expr) (f : GSs) : Prop where
  mono : MonoGs f
  run : PGs X es (rdGs c f)
theorem PG.imp {X : Cx} {e : Expr} {t t' : TG} (h : PG X e t) (i : ∀ v σ H Q, t' v σ H Q → t v σ H Q) : PG X e t' := ⟨fun pins s σ H v u Q I r q => h.run pins s σ H v u Q I r (i v σ H Q q)⟩
theorem PGs.imp {X : Cx} {e : List Expr} {t t' : TGs} (h : PGs X e t) (i : ∀ v σ H Q, t' v σ H Q → t v σ H Q) : PGs X e t' := ⟨fun pins s σ H v u Q I r q => h.run pins s σ H v u Q I r (i v σ H Q q)⟩
def gN (i : Nat) (fz : Bool) : GS := fun s ρ K => match (if fz then (frSl s).map .v else some s) with
  | some s' => i < ρ.length ∧ K (ρ.set i s')
  | none => False
def gNil : GSs := fun ss ρ K => match ss with
  | [] => K ρ
  | _ => False
def gCons (f : GS) (g : GSs) : GSs := fun ss ρ K => match ss with
  | s :: ss => f s ρ (fun ρ1 => g ss ρ1 K)
  | [] => False
/-- a, b, .. = a tuple of n things -/
def gT (n : Nat) (g : GSs) : GS := fun s ρ K => match s with
  | .v (.tup ds) => ds.length = n ∧ g (ds.map .v) ρ K
  | .t ss => ss.length = n ∧ g ss ρ K
  | _ => False
section
variable {X : Cx} {c : Fr} {W : WX} {p p1 p2 : Bool} {M M1 M' M2 : Addr → Prop} {T T' as as1 as2 : List Addr} {σ σ1 : L2.St} {H H1 H' H2 : Hp} {ρ ρ1 ρ' ρ2 : Rho}
theorem SR.put {i : Nat} {v : V} {s : Sl} (q : SR c M (as ++ T) σ H ρ) (r : RepO c.g c.Z M H v s as) (hi : i < ρ.length) (hm : c.mask[i]? ≠ some true) : SR c M T (σ.set i (some v)) H (ρ.set i s) :=
  (Post.put (p := true) (M := M) (T := T) (H := H) ⟨q, fun _ _ h _ => h, fun _ h => .inl h, fun _ => Ext.refl _⟩ r hi hm).sr
theorem SR.frz {v : V} {s : Sl} {d : D} (q : SR c M (as ++ T) σ H ρ) (r : RepO c.g c.Z M H v s as) (e : frSl s = some d) : SR c (fun a => M a ∧ a ∉ as) T σ H ρ ∧ Rep c.g c.Z (fun a => M a ∧ a ∉ as) H v d := by
  obtain ⟨a, b⟩ := Post.frz (p := true) (M := M) (T := T) (H := H) ⟨q, fun _ _ h _ => h, fun _ h => .inl h, fun _ => Ext.refl _⟩ r e
  exact ⟨a.sr, b⟩
theorem gj_name {i : Nat} {fz : Bool} {x : Str} {pos : Pos} (hm : c.mask[i]? ≠ some true) (hN : X.N.Nodup) (hi : X.N[i]? = some x) (hx : L2.Loc X.env.scope x) (hf : X.fn x = true ∨ X.env.scope.names.lookup x = some .local := by first | exact .inl rfl | exact .inr rfl | assumption) : GJ X c (.Name x pos) (gN i fz) := by
  refine ⟨fun s ρ K K' hk h => ?_, PG.imp (L2.pg_name hN hi hx hf) ?_⟩
  · unfold gN at h ⊢
    split at h
    · exact ⟨h.1, hk _ h.2⟩
    · exact h
  · rintro v σ H Q ⟨ρ, M, T, s, as, sr, r, h⟩
    unfold gN at h
    split at h
    · rename_i s' e
      cases fz with
      | false =>
        simp only [Bool.false_eq_true, if_false, Option.some.injEq] at e
        subst e
        exact h.2 _ M (sr.put r h.1 hm) fun _ h => h
      | true =>
        cases e2 : frSl s with
        | none => simp [e2] at e
        | some d =>
          simp only [e2, if_true, Option.map_some, Option.some.injEq] at e
          subst e
          obtain ⟨sr2, r2⟩ := sr.frz r e2
          exact h.2 _ (fun a => M a ∧ a ∉ as) (sr2.put (as := []) (.v r2) h.1 hm) fun _ h => h.1
    · exact h.elim
theorem gjs_nil : GJs X c [] gNil := by
  refine ⟨fun ss ρ K K' hk h => ?_, PGs.imp L2.pgs_nil ?_⟩
  · unfold gNil at h ⊢
    split at h
    · exact hk _ h
    · exact h
  · rintro vs σ H Q ⟨ρ, M, T, ss, as, sr, r, h⟩
    unfold gNil at h
    split at h
    · cases r
      exact ⟨rfl, h σ M sr fun _ h => h⟩
    · exact h.elim
theorem gjs_cons {e : Expr} {es : List Expr} {f : GS} {g : GSs} (h1 : GJ X c e f) (h2 : GJs X c es g) (hs : (assignEach (e :: es) X.env).map (·.2) = assign e X.env :: (assignEach es X.env).map (·.2) := by rfl) : GJs X c (e :: es) (gCons f g) := by
  refine ⟨fun ss ρ K K' hk h => ?_, PGs.imp (L2.pgs_cons h1.run h2.run hs) ?_⟩
  · unfold gCons at h ⊢
    split at h
    · exact h1.mono _ _ _ _ (fun _ h => h2.mono _ _ _ _ hk h) h
    · exact h
  · rintro vs σ H Q ⟨ρ, M, T, ss, as, sr, r, h⟩
    unfold gCons at h
    split at h
    · cases r with
      | cons r rs =>
        rename_i s0 ss0 v as1 vs bs
        have sr' : SR c M (as1 ++ (bs ++ T)) σ H ρ := by rw [← List.append_assoc]; exact sr
        refine ⟨v, vs, rfl, ρ, M, bs ++ T, s0, as1, sr', r, h1.mono _ _ _ _ (fun ρ1 h σ1 M1 q1 hM => ?_) h⟩
        have rs' : RepOs c.g c.Z M1 H vs ss0 bs := rs.re (fun a _ n z => n (hM a z)) fun _ _ _ z => z
        exact ⟨ρ1, M1, T, ss0, bs, q1, rs', h2.mono _ _ _ _ (fun ρ2 h σ2 M2 q2 hM2 => h σ2 M2 q2 fun a z => hM a (hM2 a z)) h⟩
    · exact h.elim
theorem gj_tup {es : List Expr} {k n : Nat} {g : GSs} {pos : Pos} (hK : X.K = c.g.K) (hc : X.calm = true) (h : GJs X c es g) (hn : (assignEach es X.env).length = n := by rfl) (hst : (assignEach es X.env).findIdx? (·.1) = none := by rfl) : GJ X c (.Tuple es k pos) (gT n g) := by
  refine ⟨fun s ρ K K' hk h' => ?_, PG.imp (L2.pg_tup hc h.run hn hst) ?_⟩
  · unfold gT at h' ⊢
    split at h'
    · exact ⟨h'.1, h.mono _ _ _ _ hk h'.2⟩
    · exact ⟨h'.1, h.mono _ _ _ _ hk h'.2⟩
    · exact h'
  · rintro v σ H Q ⟨ρ, M, T, s, as, sr, r, h'⟩
    unfold gT at h'
    split at h'
    · cases r with
      | v r =>
      cases r with
      | tup t r => exact ⟨_, _, rfl, hK ▸ t, r.length.trans h'.1, ρ, M, T, _, [], sr, repOs_v r, h'.2⟩
    · cases r with
      | t t r => exact ⟨_, _, rfl, hK ▸ t, r.length.trans h'.1, ρ, M, T, _, as, sr, r, h'.2⟩
    · exact h'.elim
/-- target = value -/
def asgS (g : GS) (f : ES) : SS := fun ρ k => f ρ (fun x ρ' => match evSl x with
  | some s => g s ρ' k.nx
  | none => False) k.ex
theorem sj_asg {tg e : Expr} {g : GS} {f : ES} {pos : Pos} (he : EJ X c W p e f) (hg : GJ X c tg g) (hs : swapsWithSole [tg] e pos.line X.env = pure false := by rfl) (hw : swappedStores [tg] e X.env = pure none := by rfl) (h1 : (assignEach [tg] X.env).map (·.2) = [assign tg X.env] := by rfl) :
    SJ X c W (.Assign [tg] e pos) (asgS g f) := by
  refine ⟨fun ρ k k' l q => he.mono _ _ _ _ _ (fun x ρ' q => ?_) (fun _ _ => l.2.2.1 _ _) q, PS.imp (L2.ps_asg he.run hg.run hs hw h1) ?_⟩
  · split at q
    · exact hg.mono _ _ _ _ l.1 q
    · exact q
  · rintro D σ H ⟨ρ, M, T, s, k⟩
    refine ⟨ρ, M, T, s, he.mono _ _ _ _ _ (fun x ρ' k v H' M' as q r => ?_) (fun x ρ' k => exc_le x ρ' k) k⟩
    split at k
    · rename_i s' e
      exact ⟨ρ', M', T, s', as, q.sr, r.sl e, hg.mono _ _ _ _ (fun ρ2 k σ2 M2 q2 hM => k σ2 H' M2 ⟨q2, q.keep, fun a z => q.new a (hM a z), fun e => nomatch e⟩) k⟩
    · exact k.elim
/-- a, b = x, y with plain names -/
def parS (i j : Nat) (g : AS) : SS := fun ρ k => g ρ (fun xs ρ' => match xs with
  | [x, y] => (match evSl x, evSl y with
    | some s, some t => i < ρ'.length ∧ j < ρ'.length ∧ k.nx ((ρ'.set i s).set j t)
    | _, _ => False)
  | _ => False) k.ex
theorem sj_par {i j : Nat} {x y : Str} {a b : Expr} {g : AS} {px py pt pos : Pos} {kt k2 pt2} (hmi : c.mask[i]? ≠ some true) (hmj : c.mask[j]? ≠ some true) (hc : X.calm = true) (hN : X.N.Nodup) (hi : X.N[i]? = some x) (hj : X.N[j]? = some y) (hij : i ≠ j)
    (hx : X.env.scope.names.lookup x = some .local) (hy : X.env.scope.names.lookup y = some .local) (ha : AJ X c W p [a, b] g)
    (hw : swappedStores [.Tuple [.Name x px, .Name y py] kt pt] (.Tuple [a, b] k2 pt2) X.env = pure (some [x, y]))
    (hs : swapsWithSole [.Tuple [.Name x px, .Name y py] kt pt] (.Tuple [a, b] k2 pt2) pos.line X.env = pure false := by rfl) : SJ X c W (.Assign [.Tuple [.Name x px, .Name y py] kt pt] (.Tuple [a, b] k2 pt2) pos) (parS i j g) := by
  refine ⟨fun ρ k k' l q => ha.mono _ _ _ _ _ (fun xs ρ' q => ?_) (fun _ _ => l.2.2.1 _ _) q, PS.imp (L2.ps_par hc hN hi hj hij hx hy ha.run hw hs) ?_⟩
  · split at q
    · split at q
      · exact ⟨q.1, q.2.1, l.1 _ q.2.2⟩
      · exact q
    · exact q
  · rintro D σ H ⟨ρ, M, T, s, k⟩
    refine ⟨ρ, M, T, s, ha.mono _ _ _ _ _ (fun xs ρ' k vs H' M' as q r => ?_) (fun x ρ' k => exc_le x ρ' k) k⟩
    split at k
    · obtain ⟨v, u, as1, as2, rfl, r1, r2, rfl⟩ := r.two
      split at k
      · rename_i s1 s2 e1 e2
        have q' := q.weak
        rw [List.append_assoc] at q'
        have hm2 : as1 ++ T = as1 ++ T := rfl
        -- the second value stays on its way while the first one is put
        have qp : Post c false σ M T H M' (as1 ++ (as2 ++ T)) H' ρ' := by
          obtain ⟨Ms, rs, nd, al⟩ := q'.sr.slots
          have pm : (Ms ++ (as1 ++ (as2 ++ T))).Perm (Ms ++ (as2 ++ (as1 ++ T))) := by
            refine List.Perm.append_left _ ?_
            rw [← List.append_assoc, ← List.append_assoc]
            exact List.Perm.append_right _ List.perm_append_comm
          exact ⟨⟨⟨Ms, rs, pm.nodup_iff.mpr nd, fun a ha => al a (pm.mem_iff.mp ha)⟩, q'.sr.ty, q'.sr.src, q'.sr.keep, q'.sr.pin, q'.sr.ln⟩, q'.keep, q'.new, q'.pu⟩
        have w1 := SR.put qp.sr (r1.sl e1) k.1 hmi
        have w2 := SR.put w1 (r2.sl e2) (by rw [List.length_set]; exact k.2.1) hmj
        exact ⟨v, u, rfl, k.2.2 _ H' M' ⟨w2, q'.keep, q'.new, fun e => nomatch e⟩⟩
      · exact k.elim
    · exact k.elim
end
end VS
set_option Elab.async false
set_option linter.all false
set_option maxRecDepth 100000
set_option maxHeartbeats 4000000
/-! VS8: a def keeps its promise; raise; what a call changes of its caller's slots; built-in methods. Own work. -/
namespace VS
open PySem PySem.Spec PyProof.Rows
open L2 (V Hp HO upd SqL SqT Rd Cx TE TT TA TS TG TGs VK XK WX PE PT PA PS PSs PG PGs OpR RelV CallR Sp FnOk atI)
def defK (mask : List Bool) (K : EV → List Sl → Prop) (E : Exc → List Sl → Prop) : SK where
  nx ρ' := retSls (pick mask ρ') = true ∧ K (.v .non) (pick mask ρ')
  rt x ρ' := (retEV x = true ∧ retSls (pick mask ρ') = true) ∧ K x (pick mask ρ')
  ex x ρ' := (retOks x.ds = true ∧ retSls (pick mask ρ') = true) ∧ E x (pick mask ρ')
  bk _ := False
  ct _ := False
/-- a def by its body -/
def defF (mask : List Bool) (m : Nat) (sf : SS) : FS := fun ss K E => ss.length = mask.length ∧ sf (ss ++ List.replicate (m - ss.length) .no) (defK mask K E)
theorem defF_len {mask : List Bool} {m : Nat} {sf : SS} : ∀ ss K E, defF mask m sf ss K E → ss.length = mask.length := fun _ _ _ h => h.1
section
variable {g : Ge} {Z M M' : Addr → Prop} {H H' : Hp}
theorem RepS.pick : ∀ (m : List Bool) {σ : L2.St} {ρ : Rho} {Ms : List Addr}, RepS g Z M H σ ρ Ms → retSls (pick m ρ) = true → ∃ us ias, VS.pick m σ = us.map some ∧ RepOs g Z M H us (VS.pick m ρ) ias ∧ ias.Sublist Ms
  | [], σ, ρ, _, _, _ => ⟨[], [], by cases σ <;> rfl, by cases ρ <;> exact .nil, List.nil_sublist _⟩
  | true :: m, _, _, _, .nil, _ => ⟨[], [], rfl, .nil, List.nil_sublist _⟩
  | false :: m, _, _, _, .nil, _ => ⟨[], [], rfl, .nil, List.nil_sublist _⟩
  | false :: m, _, _, _, .no r, h => by
    obtain ⟨us, ias, h1, h2, h3⟩ := r.pick m h
    exact ⟨us, ias, h1, h2, h3⟩
  | false :: m, _, _, _, .yes q r, h => by
    obtain ⟨us, ias, h1, h2, h3⟩ := r.pick m h
    exact ⟨us, ias, h1, h2, h3.trans (List.sublist_append_right _ _)⟩
  | true :: m, _, _, _, .no (ρ := ρ) r, h => by
    have : (retSl .no && retSls (VS.pick m ρ)) = true := h
    rw [Bool.and_eq_true] at this
    exact absurd this.1 (by simp [retSl])
  | true :: m, _, _, _, .yes (v := v) (s := s) (ρ := ρ) q r, h => by
    have h' : (retSl s && retSls (VS.pick m ρ)) = true := h
    rw [Bool.and_eq_true] at h'
    obtain ⟨us, ias, h1, h2, h3⟩ := r.pick m h'.2
    exact ⟨v :: us, _ ++ ias, by show _ :: VS.pick m _ = _; rw [h1]; rfl, .cons q h2, List.Sublist.append (List.Sublist.refl _) h3⟩
theorem pick_congr {α : Type} : ∀ (m : List Bool) {xs ys : List α}, xs.length = ys.length → (∀ j : Nat, m[j]? = some true → xs[j]? = ys[j]?) → pick m xs = pick m ys
  | [], xs, ys, _, _ => by cases xs <;> cases ys <;> rfl
  | _ :: _, [], [], _, _ => rfl
  | _ :: _, [], _ :: _, h, _ => by simp at h
  | _ :: _, _ :: _, [], h, _ => by simp at h
  | true :: m, x :: xs, y :: ys, hl, h => by
    have e : x = y := by have := h 0 rfl; simpa using this
    subst e
    show x :: pick m xs = x :: pick m ys
    rw [pick_congr m (by simpa using hl) fun j hj => by have := h (j + 1) (by simpa using hj); simpa using this]
  | false :: m, x :: xs, y :: ys, hl, h => pick_congr m (xs := xs) (ys := ys) (by simpa using hl) fun j hj => by have := h (j + 1) (by simpa using hj); simpa using this
theorem pick_map : ∀ (m : List Bool) {vs : List V} {r : List (Option V)}, vs.length = m.length → pick m (vs.map some ++ r) = (pick m vs).map some
  | [], [], r, _ => by cases r <;> rfl
  | [], _ :: _, _, h => by simp at h
  | _ :: _, [], _, h => by simp at h
  | true :: m, v :: vs, r, h => by
    show some v :: pick m (vs.map some ++ r) = some v :: (pick m vs).map some
    rw [pick_map m (by simpa using h)]
  | false :: m, v :: vs, r, h => pick_map m (vs := vs) (by simpa using h)
theorem repS_no : ∀ (n : Nat), RepS g Z M H (List.replicate n none) (List.replicate n .no) []
  | 0 => .nil
  | n + 1 => .no (repS_no n)
theorem repS_start {n : Nat} : ∀ {vs : List V} {ss : List Sl} {as : List Addr}, RepOs g Z M H vs ss as → RepS g Z M H (vs.map some ++ List.replicate n none) (ss ++ List.replicate n .no) as
  | _, _, _, .nil => repS_no n
  | _, _, _, .cons r rs => .yes r (repS_start rs)
theorem map_some_inj : ∀ {xs ys : List V}, xs.map some = ys.map some → xs = ys
  | [], [], _ => rfl
  | [], _ :: _, h => by simp at h
  | _ :: _, [], h => by simp at h
  | x :: xs, y :: ys, h => by
    simp only [List.map_cons, List.cons.injEq, Option.some.injEq] at h
    rw [h.1, map_some_inj h.2]
end
section
variable {P : Program} {w : World} {K : PySem.W.Frag} {mg : Str → Option Value} {base : Heap}
/-- the context of a body -/
abbrev frOf (K : PySem.W.Frag) (mg : Str → Option Value) (mask : List Bool) (Z : Addr → Prop) (H0 : Hp) (io : List Addr) (zd : ∀ a, Z a → H0 a ≠ none) (zi : ∀ a ∈ io, ¬ Z a) (s0 : L2.St) : Fr := ⟨⟨K, mg⟩, Z, H0, io, zd, zi, mask, s0⟩
theorem end_post {c : Fr} {x : EV} {σ' : L2.St} {v : V} {as as' : List Addr} {M' : Addr → Prop} {H H' : Hp} {ρ' : Rho} {vs : List V} {N : List Str} (h0 : c.H0 = H) (hio : c.io = as) (hs : c.s0 = L2.start N vs) (hl : vs.length = c.mask.length) (hN : vs.length ≤ N.length)
    (q : Post c false σ' (fun a => a ∈ as) [] H M' (as' ++ []) H' ρ') (hx : retSls (pick c.mask ρ') = true) :
    ∃ ias, CPost c.g c.Z c.mask vs as H H' (pick c.mask ρ') ias as' ∧ (∀ a ∈ as' ++ ias, M' a) := by
  obtain ⟨Ms, r, nd, al⟩ := q.sr.slots
  obtain ⟨us, ias, h1, h2, h3⟩ := r.pick c.mask hx
  have e : VS.pick c.mask σ' = (VS.pick c.mask vs).map some := by
    rw [pick_congr c.mask (ys := c.s0) ?_ q.sr.pin, hs]
    · exact pick_map c.mask hl
    · exact q.sr.ln
  have eu : us = VS.pick c.mask vs := map_some_inj (h1.symm.trans e)
  subst eu
  have hM : ∀ a ∈ as' ++ ias, M' a := fun a ha => al a (by
    rcases List.mem_append.mp ha with ha | ha
    · exact List.mem_append_right _ (List.mem_append_left _ ha)
    · exact List.mem_append_left _ (h3.subset ha))
  refine ⟨ias, ⟨fun b o eb hb => ?_, h2.back (fun a _ n z k => n (hM a k)) (fun _ _ _ z => z) hx, ?_, fun a ha => ?_, hx⟩, hM⟩
  · exact q.keep b o eb fun z => absurd z hb
  · obtain ⟨n1, n2, n3⟩ := List.nodup_append.mp nd
    exact List.nodup_append.mpr ⟨(List.nodup_append.mp n2).1, n1.sublist h3, fun a ha b hb e => n3 b (h3.subset hb) a (List.mem_append_left _ ha) e.symm⟩
  · exact q.new a (hM a ha)
theorem def_ok {x qual : Str} {st : Stmt} {f : Addr} {fd : FuncData} {N ps : List Str} {k : Nat} {mask : List Bool} {sf : SS} {dvs : List V} {kws : List (Str × V)} (F : L2.FunD K x qual (L2.defArgs st) (L2.defBody st) (L2.defScope st) dvs kws f fd) (S : L2.FnScope N ps (L2.defScope st)) (hml : mask.length = ps.length) (hpl : ps.length ≤ N.length)
    (hbody : ∀ (cdv : Value) (A : Around) (outer : List Env) (s : Shared) (H : Hp) (E : XK) (Z : Addr → Prop) (H0 : Hp) (io : List Addr) (zd : ∀ a, Z a → H0 a ≠ none) (zi : ∀ a ∈ io, ¬ Z a) (s0 : L2.St), L2.Room k (A.deeper (envOfC qual (L2.defScope st) s.heap.objs.size f cdv)) →
      SJs (L2.cxOf (L2.CX P w) P w K mg base N qual (L2.defScope st) f cdv A outer s H E) (frOf K mg mask Z H0 io zd zi s0) (fun cls dd _ H => E cls dd H) (L2.defBody st) sf) :
    FnOk P w K mg base (L2.CX P w) (k + 1) f fd ps (spV ⟨K, mg⟩ mask (defF mask N.length sf)) := by
  have hlv : ∀ vs H Q E, spV ⟨K, mg⟩ mask (defF mask N.length sf) vs H Q E → vs.length = ps.length := fun vs H Q E ⟨Z, ss, as, _, _, r, _, hl, _⟩ => by rw [r.length, hl, hml]
  refine F.ok (CX := L2.CX P w) S hlv fun cdv A outer s H vs Q E hr hsp => ?_
  have hv := hlv vs H Q E hsp
  obtain ⟨Z, ss, as, zd, za, r, nd, hl, _, hF⟩ := hsp
  have J := hbody cdv A outer s H E Z H as zd za (L2.start N vs) hr
  refine ⟨_, J.run, ss ++ List.replicate (N.length - ss.length) .no, fun a => a ∈ as, [], ?_, ?_⟩
  · have e : L2.start N vs = vs.map some ++ List.replicate (N.length - ss.length) none := by unfold L2.start; rw [r.length]
    exact ⟨⟨as, by rw [e]; exact repS_start r, by rw [List.append_nil]; exact nd, fun a h => by simpa using h⟩, fun a h => r.typed a h, fun a h => .inl h, fun b o e _ => e, fun _ _ => rfl, rfl⟩
  · have hlc : vs.length = (frOf K mg mask Z H as zd za (L2.start N vs)).mask.length := by show vs.length = mask.length; omega
    refine J.mono _ (defK mask _ _) _ ⟨fun ρ' h σ' H' M' q => ?_, fun x ρ' h σ' v H' M' as' q rv => ?_, fun x ρ' h σ' cls dd H' M' q rx => ?_, fun _ h => h.elim, fun _ h => h.elim⟩ hF
    · obtain ⟨ias, cp, hM⟩ := end_post (c := frOf K mg mask Z H as zd za (L2.start N vs)) (x := .v .non) (v := .non) (as' := []) (N := N) rfl rfl rfl hlc (by omega) q h.1
      exact h.2 .non H' [] ias cp (.v .non) rfl
    · obtain ⟨ias, cp, hM⟩ := end_post (c := frOf K mg mask Z H as zd za (L2.start N vs)) (x := x) (v := v) (N := N) rfl rfl rfl hlc (by omega) q h.1.2
      exact h.2 v H' as' ias cp (rv.back (fun a _ n _ k => n (hM a k)) (fun _ _ _ z => z) h.1.1) h.1.1
    · obtain ⟨ias, cp, hM⟩ := end_post (c := frOf K mg mask Z H as zd za (L2.start N vs)) (x := .v .non) (v := .non) (as' := []) (N := N) rfl rfl rfl hlc (by omega) q h.1.2
      exact h.2 cls dd H' ias cp (rx.back (fun a _ n _ k => n (hM a (List.mem_append_right _ k))) (fun _ _ _ z => z) h.1.1) h.1.1
end
end VS
set_option Elab.async false
set_option linter.all false
set_option maxRecDepth 100000
set_option maxHeartbeats 4000000
/-! VS9: defs by name, raise, more built-in calls. Own work. -/
namespace VS
open PySem PySem.Spec PyProof.Rows
open L2 (V Hp HO upd SqL SqT Rd Cx TE TT TA TS TG TGs VK XK WX PE PT PA PS PSs PG PGs OpR RelV CallR Sp FnOk atI)
/-- the def that stands under the name x keeps the promise F, within k calls -/
structure Def (P : Program) (w : World) (K : PySem.W.Frag) (mg : Str → Option Value) (base : Heap) (k : Nat) (x : Str) (ps : List Str) (mask : List Bool) (F : FS) : Prop where
  ex : ∃ f fd, FnOk P w K mg base (L2.CX P w) k f fd ps (spV ⟨K, mg⟩ mask F) ∧ mg x = some (.ref f) ∧ PySem.W.keepIn K (.ref f) = true ∧ L2.Binds K fd ps [] ∧ ∃ oc od osl, K.lookup f = some ⟨oc, od, .func fd, osl⟩
  mono : MonoF F
  len : ∀ ss K E, F ss K E → ss.length = mask.length
/-- the text of the def that stands under the name x -/
structure At (K : PySem.W.Frag) (mg : Str → Option Value) (x qual : Str) (st : Stmt) (ps : List Str) : Prop where
  ex : ∃ nm f fd dvs kws, L2.FunD K nm qual (L2.defArgs st) (L2.defBody st) (L2.defScope st) dvs kws f fd ∧ mg x = some (.ref f) ∧ L2.Binds K fd ps []
theorem spV_imp {g : Ge} {mask : List Bool} {F F' : FS} (h : ∀ ss K E, F' ss K E → F ss K E) : ∀ vs H Q E, spV g mask F' vs H Q E → spV g mask F vs H Q E :=
  fun vs H Q E ⟨Z, ss, as, h1, h2, h3, h4, h5, h6⟩ => ⟨Z, ss, as, h1, h2, h3, h4, h5, h _ _ _ h6⟩
section
variable {P : Program} {w : World} {K : PySem.W.Frag} {mg : Str → Option Value} {base : Heap}
theorem Def.imp {k : Nat} {x : Str} {ps : List Str} {mask : List Bool} {F F' : FS} (d : Def P w K mg base k x ps mask F) (hm : MonoF F') (hl : ∀ ss K E, F' ss K E → ss.length = mask.length) (h : ∀ ss K E, F' ss K E → F ss K E) : Def P w K mg base k x ps mask F' := by
  obtain ⟨f, fd, G, h1, h2, h3⟩ := d.ex
  exact ⟨⟨f, fd, G.imp (spV_imp h), h1, h2, h3⟩, hm, hl⟩
/-- .. without what its callers ask besides -/
structure DefR (P : Program) (w : World) (K : PySem.W.Frag) (mg : Str → Option Value) (base : Heap) (k : Nat) (x : Str) (ps : List Str) (mask : List Bool) (F : FS) : Prop where
  ex : ∃ f fd, FnOk P w K mg base (L2.CX P w) k f fd ps (spV ⟨K, mg⟩ mask F) ∧ mg x = some (.ref f) ∧ PySem.W.keepIn K (.ref f) = true ∧ L2.Binds K fd ps [] ∧ ∃ oc od osl, K.lookup f = some ⟨oc, od, .func fd, osl⟩
/-- a nicer promise -/
theorem DefR.def {k : Nat} {x : Str} {ps : List Str} {mask : List Bool} {F F' : FS} (d : DefR P w K mg base k x ps mask F) (hm : MonoF F') (h : ∀ ss K E, F' ss K E → F ss K E) (hl : ∀ ss K E, F ss K E → ss.length = mask.length) : Def P w K mg base k x ps mask F' := by
  obtain ⟨f, fd, G, h1, h2, h3⟩ := d.ex
  exact ⟨⟨f, fd, G.imp (spV_imp h), h1, h2, h3⟩, hm, fun ss K E q => hl ss K E (h ss K E q)⟩
/-- a def by its body -/
theorem DefR.mk' {x qual : Str} {st : Stmt} {N ps : List Str} {k : Nat} {mask : List Bool} {sf : SS} (A : At K mg x qual st ps) (S : L2.FnScope N ps (L2.defScope st)) (hml : mask.length = ps.length) (hpl : ps.length ≤ N.length)
    (hbody : ∀ (f : Addr) (cdv : Value) (A : Around) (outer : List Env) (s : Shared) (H : Hp) (E : XK) (Z : Addr → Prop) (H0 : Hp) (io : List Addr) (zd : ∀ a, Z a → H0 a ≠ none) (zi : ∀ a ∈ io, ¬ Z a) (s0 : L2.St), L2.Room k (A.deeper (envOfC qual (L2.defScope st) s.heap.objs.size f cdv)) →
      SJs (L2.cxOf (L2.CX P w) P w K mg base N qual (L2.defScope st) f cdv A outer s H E) (frOf K mg mask Z H0 io zd zi s0) (fun cls dd _ H => E cls dd H) (L2.defBody st) sf) :
    DefR P w K mg base (k + 1) x ps mask (defF mask N.length sf) := by
  obtain ⟨nm, f, fd, dvs, kws, F, h1, h2⟩ := A.ex
  have lk : ∃ oc od osl, K.lookup f = some ⟨oc, od, .func fd, osl⟩ := by
    obtain ⟨oc, od, dV, kV, doc, pm, an, cdv, ct, osl, rfl, lk, _⟩ := F.ex
    exact ⟨_, _, _, lk⟩
  exact ⟨⟨f, fd, def_ok F S hml hpl (hbody f), h1, F.kp, h2, lk⟩⟩
/-- an own error class of one text -/
structure XCls (K : PySem.W.Frag) (mg : Str → Option Value) (x : Str) : Prop where
  ex : ∃ C, mg x = some (.ref C) ∧ PySem.W.excIn K C [.type "ValueError", .type "Exception", .type "BaseException", .type "object"] "ValueError.__new__" = true ∧ PySem.W.keepIn K (.ref C) = true ∧ PySem.W.subIn K (.ref C) (.type "BaseException") = some true ∧ PySem.W.typeIn K (.ref C) = some (.type "type")
end
section
variable {X : Cx} {c : Fr} {W : WX} {p p1 p2 : Bool} {M M' M2 : Addr → Prop} {T T' as as1 as2 : List Addr} {σ : L2.St} {H H' H2 : Hp} {ρ ρ' ρ2 : Rho}
/-- f(e, ..) of a def that changes nothing of what it is handed -/
theorem ej_call {mask : List Bool} {F : FS} {j k : Nat} {ps : List Str} {x : Str} {pp pos : Pos} {e : Expr} {es : List Expr} {g : AS} (d : Def X.prog X.w c.g.K c.g.mg X.base j x ps mask F) (hm : ∀ b ∈ mask, b = false)
    (hK : X.K = c.g.K) (hmg : X.mg = c.g.mg) (hr : L2.Room k X.A) (hjk : j ≤ k) (hg : L2.Gl X x) (tk : L2.Takes X W)
    (ha : AJ X c W p (e :: es) g) (hdb : (x == ("__debug__" : Str)) = false := by decide) (he : starEach (e :: es) X.env = (false, eval e X.env) :: starEach es X.env := by rfl) (hpl : (backTo pos (starEach es X.env)).any (·.1) = false := by rfl) :
    EJ X c W p (.Call (.Name x pp) (e :: es) [] pos) (callP F [] g) := by
  obtain ⟨f, fd, G, h1, h2, h3⟩ := d.ex
  have G' : FnOk X.prog X.w X.K X.mg X.base (L2.CX X.prog X.w) j f fd ps (spV c.g mask F) := by rw [hK, hmg]; exact G
  exact ej_callP d.mono d.len hm G' (hr.mono hjk) hg (by rw [hmg]; exact h1) (by rw [hK]; exact h2) (by rw [hK]; exact h3.1) .nil (fun _ _ _ => .nil) tk ha hdb he hpl
/-- raise X('..') of an own class without __init__ -/
def raiseS (cn : Str) : SS := fun ρ k => k.ex ⟨cn, [], []⟩ ρ
/-! abs of an int, max and min of two ints, divmod -/
def absC : CR := fun xs K _ ρ => match xs with
  | [.v (.int i)] => K (.v (.int (if i < 0 then -i else i))) ρ
  | _ => False
theorem absC_mono : MonoC absC := fun xs ρ K K' E E' hk _ h => by
  unfold absC at h ⊢
  split at h
  · exact hk _ _ h
  · exact h
theorem absC_says : SaysC c (fun xs H Q => ∃ i, xs = [.int i] ∧ Q (.int (if i < 0 then -i else i)) H) absC := by
  intro p σ M T H M2 H2 ρ2 as vs xs Q E q r h
  unfold absC at h
  split at h
  · obtain ⟨v, rfl, r1⟩ := r.one
    exact ⟨_, by rw [r1.int], h _ H2 M2 [] q.drop (.v (.int _))⟩
  · exact h.elim
theorem call_divmodV (hP : PyX X) : CallR X (.builtin "divmod") (fun xs H Q => ∃ i j, xs = [.int i, .int j] ∧ DivOk i j ∧ ∀ p, H p = none → Q (.ref p) (upd H p (.tup [.int (i.fdiv j), .int (i.fmod j)]))) := by
  intro pins s σ H xs us Q I r h
  obtain ⟨i, j, rfl, h1, q⟩ := h
  obtain ⟨u, w', rfl, ⟨t, rfl⟩, ⟨t', rfl⟩⟩ := L2.vals2 r
  refine divmod_int h1 ?_ (.inr (PyA.room hP I))
  have hn : H s.heap.objs.size = none := I.hok.fresh (Nat.le_refl _)
  refine ⟨.ref s.heap.objs.size, _, ?_, rfl, q _ hn⟩
  refine I.laid (fun b o e => Heap.get?_push_of_some _ e) (Nat.le_refl _) ⟨by simp only [List.length_cons, List.length_nil]; rw [sizeLine_eq]; decide, [.int (i.fdiv j) s.toks, .int (i.fmod j) (s.toks + 1)], .cons ⟨_, rfl⟩ (.cons ⟨_, rfl⟩ .nil), ?_⟩
  exact ⟨_, Heap.get?_push_size s.heap rfl, rfl, 0, rfl⟩
def divmodC : CR := fun xs K _ ρ => match xs with
  | [.v (.int i), .v (.int j)] => DivOk i j ∧ K (.v (.tup [.int (i.fdiv j), .int (i.fmod j)])) ρ
  | _ => False
theorem divmodC_mono : MonoC divmodC := fun xs ρ K K' E E' hk _ h => by
  unfold divmodC at h ⊢
  split at h
  · exact ⟨h.1, hk _ _ h.2⟩
  · exact h
theorem divmodC_says : SaysC c (fun xs H Q => ∃ i j, xs = [.int i, .int j] ∧ DivOk i j ∧ ∀ p, H p = none → Q (.ref p) (upd H p (.tup [.int (i.fdiv j), .int (i.fmod j)]))) divmodC := by
  intro p σ M T H M2 H2 ρ2 as vs xs Q E q r h
  unfold divmodC at h
  split at h
  · obtain ⟨v, u, as1, as2, rfl, r1, r2, rfl⟩ := r.two
    refine ⟨_, _, by rw [r1.int, r2.int], h.1, fun pa hp => ?_⟩
    exact h.2 _ _ M2 [] (q.drop.ext (Ext.new hp)) (.v (.tup (.inl (.inl L2.upd_same)) (.cons (.int _) (.cons (.int _) .nil))))
  · exact h.elim
/-- max, min of two ints -/
def mmC (mx : Bool) : CR := fun xs K _ ρ => match xs with
  | [.v (.int i), .v (.int j)] => K (.v (.int (if (if mx then decide (j > i) else decide (j < i)) then j else i))) ρ
  | _ => False
end
end VS
namespace VS
open PySem PySem.Spec PyProof.Rows
open L2 (V Hp Cx WX)
/-- .. in a def's body -/
theorem pyD {P : Program} {K : PySem.W.Frag} {mg : Str → Option Value} {N ps : List Str} {qual : Str} {sc : Scope} {f : Addr} {cd : Value} {A : Around} {outer : List Env} {s : Shared} {k : Nat}
    (y : PyK P K mg) (S : L2.FnScope N ps sc) (hk : 32 ≤ k) (hr : L2.Room k (A.deeper (envOfC qual sc s.heap.objs.size f cd))) : PyA P K mg (A.deeper (envOfC qual sc s.heap.objs.size f cd)) (envOfC qual sc s.heap.objs.size f cd :: outer) := by
  refine ⟨y, ?_, _, _, rfl, S.gen, S.co, rfl, rfl⟩
  have := hr.dp
  show (A.deeper (envOfC qual sc s.heap.objs.size f cd)).depth + 100 < recursionLimit
  omega
theorem u128 {k : Nat} {A : Around} (h : L2.Room k A) : A.units + 128 < cLine := by have := h.un; omega
end VS
namespace VS
theorem nm {m : List Bool} {i : Nat} (h : (m[i]? == some true) = false) : m[i]? ≠ some true := fun e => by rw [e] at h; simp at h
end VS
set_option Elab.async false
set_option linter.all false
set_option maxRecDepth 100000
set_option maxHeartbeats 4000000
/-! VS10: what a loop walks; for. Own work. -/
namespace VS
open PySem PySem.Spec PyProof.Rows
open L2 (V Hp HO upd SqL SqT Rd Cx TE TT TA TS TG TGs TI It VK XK WX PE PT PA PS PSs PG PGs PI OpR RelV CallR Sp FnOk atI)
/-- J walks ds from (M, T, H) on, whatever happens to what is owned -/
def IT (c : Fr) (M : Addr → Prop) (T : List Addr) (H : Hp) (J : It) (ds : List D) : Prop := ∀ σ' M' H' ρ', Post c false σ' M T H M' T H' ρ' → ∀ i : Nat,
  (∀ d, ds[i]? = some d → J.go i H' ∧ ∀ x H'', J.yld i H' x H'' → Ext H' H'' ∧ Rep c.g c.Z M' H'' x d) ∧ (ds[i]? = none → J.stop i H')
abbrev IS := Rho → (List D → Rho → Prop) → (Exc → Rho → Prop) → Prop
def MonoI (f : IS) : Prop := ∀ ρ K K' E E', (∀ x ρ', K x ρ' → K' x ρ') → (∀ x ρ', E x ρ' → E' x ρ') → f ρ K E → f ρ K' E'
def rdI (c : Fr) (W : WX) (p : Bool) (f : IS) : TI := fun σ H R => ∃ ρ M T, SR c M T σ H ρ ∧
  f ρ (fun ds ρ' => ∀ J H' M', Post c p σ M T H M' T H' ρ' → IT c M' T H' J ds → R J H')
    (fun x ρ' => ∀ cls dd H' M', Post c false σ M T H M' T H' ρ' → XRep c M' H' cls dd x → W cls dd σ H')
structure IJ (X : Cx) (c : Fr) (W : WX) (p : Bool) (tg e : Expr) (f : IS) : Prop where
  mono : MonoI f
  run : PI X tg e (rdI c W p f)
theorem PI.imp {X : Cx} {tg e : Expr} {t t' : TI} (h : PI X tg e t) (i : ∀ σ H Q, t' σ H Q → t σ H Q) : PI X tg e t' := ⟨fun pins s σ H Q I q => h.run pins s σ H Q I (i σ H Q q)⟩
/-- for -/
def loopS (g : GS) (f : SS) : List D → SS
  | [] => fun ρ k => k.nx ρ
  | d :: ds => fun ρ k => g (.v d) ρ (fun ρ1 => f ρ1 (k.loop fun ρ2 => loopS g f ds ρ2 k))
def forS (it : IS) (g : GS) (f : SS) : SS := fun ρ k => it ρ (fun ds ρ1 => loopS g f ds ρ1 k) k.ex
section
variable {X : Cx} {c : Fr} {W : WX} {p p1 p2 : Bool} {M M1 M' M2 : Addr → Prop} {T T' as as1 as2 : List Addr} {σ σ1 : L2.St} {H H1 H' H2 : Hp} {ρ ρ1 ρ' ρ2 : Rho}
theorem loopS_mono {g : GS} {f : SS} (hg : MonoG g) (hf : MonoS f) : ∀ ds, MonoS (loopS g f ds)
  | [] => fun ρ k k' l h => l.1 _ h
  | d :: ds => fun ρ k k' l h => hg _ _ _ _ (fun ρ1 h => hf _ (k.loop fun ρ2 => loopS g f ds ρ2 k) (k'.loop fun ρ2 => loopS g f ds ρ2 k') ⟨fun ρ2 h => loopS_mono hg hf ds _ _ _ l h, l.2.1, l.2.2.1, l.1, fun ρ2 h => loopS_mono hg hf ds _ _ _ l h⟩ h) h
theorem sj_for {tg iter : Expr} {body : List Stmt} {it : IS} {g : GS} {f : SS} {pos : Pos} (hp : PassesOwn (model X.prog X.w) X.A X.env X.xe) (hc : X.calm = true) (hi : IJ X c W p tg iter it) (hg : GJ X c tg g) (hb : SJs X c W body f)
    (hs : ∀ x, foldedSetIterable iter X.env x = pure x := by intro _; rfl) : SJ X c W (.For tg iter body [] pos) (forS it g f) := by
  refine ⟨fun ρ k k' l q => hi.mono _ _ _ _ _ (fun ds ρ1 q => loopS_mono hg.mono hb.mono ds _ _ _ l q) (fun _ _ => l.2.2.1 _ _) q, PS.imp (L2.ps_for hp hc hi.run hg.run hb.run hs) ?_⟩
  rintro D σ H ⟨ρ, M, T, s, k⟩
  refine ⟨ρ, M, T, s, hi.mono _ _ _ _ _ (fun ds ρ1 k J H1 M1 q1 jt => ?_) (fun x ρ' k => exc_le x ρ' k) k⟩
  refine ⟨fun i m σ2 H2 => ∃ ρ2 M2, Post c false σ2 M1 T H1 M2 T H2 ρ2 ∧ m = ds.length - i ∧ i ≤ ds.length ∧ loopS g f (ds.drop i) ρ2 (skOf c W D M2 T H2), ⟨ds.length, ρ1, M1, Post.refl q1.sr, by simp, Nat.zero_le _, ?_⟩, ?_⟩
  · rw [List.drop_zero]; exact loopS_mono hg.mono hb.mono ds _ _ _ (skOf_after q1) k
  · rintro i m σ2 H2 ⟨ρ2, M2, q2, rfl, hi', k⟩
    obtain ⟨it1, it2⟩ := jt σ2 M2 H2 ρ2 q2 i
    cases e : ds[i]? with
    | none =>
      refine .inl ⟨it2 e, ?_⟩
      have hd : ds.drop i = [] := by rw [List.drop_eq_nil_iff]; exact List.getElem?_eq_none_iff.mp e
      rw [hd] at k
      exact k σ2 H2 M2 (Post.refl q2.sr)
    | some d =>
      obtain ⟨go, yl⟩ := it1 d e
      obtain ⟨hlt, ed⟩ := List.getElem?_eq_some_iff.mp e
      have hd : ds.drop i = d :: ds.drop (i + 1) := by rw [List.drop_eq_getElem_cons hlt, ed]
      rw [hd] at k
      refine .inr ⟨go, fun σ3 H3 => ∃ ρ3 M3, Post c false σ3 M1 T H1 M3 T H3 ρ3 ∧ loopS g f (ds.drop (i + 1)) ρ3 (skOf c W D M3 T H3), fun σ3 H3 ⟨ρ3, M3, q3, k3⟩ => ⟨ds.length - (i + 1), by omega, ρ3, M3, q3, rfl, hlt, k3⟩, fun x H' y => ?_⟩
      obtain ⟨x2, rx⟩ := yl x H' y
      refine ⟨ρ2, M2, T, .v d, [], q2.sr.ext x2, .v rx, hg.mono _ _ _ _ (fun ρ3 k σ3 M3 s3 hM => ?_) k⟩
      have q3 : Post c false σ3 M2 T H2 M3 T H' ρ3 := ⟨s3, fun b o eb _ => x2 b o eb, fun a h => .inl (hM a h), fun e => nomatch e⟩
      refine ⟨ρ3, M3, T, s3, hb.mono _ ((skOf c W D M2 T H2).loop fun ρ4 => loopS g f (ds.drop (i + 1)) ρ4 (skOf c W D M2 T H2)) _ ⟨fun ρ4 k σ4 H4 M4 q4 => ?_, fun x ρ4 k => (skOf_after (W := W) (De := D) q3).2.1 x ρ4 k, fun x ρ4 k => (skOf_after (W := W) (De := D) q3).2.2.1 x ρ4 k, fun ρ4 k => (skOf_after (W := W) (De := D) q3).1 ρ4 k, fun ρ4 k σ4 H4 M4 q4 => ?_⟩ k⟩
      · have q34 := q3.trans q4 fun _ z => z
        exact ⟨ρ4, M4, q2.trans q34 fun _ z => z, loopS_mono hg.mono hb.mono _ _ _ _ (skOf_after q34) k⟩
      · have q34 := q3.trans q4 fun _ z => z
        exact ⟨ρ4, M4, q2.trans q34 fun _ z => z, loopS_mono hg.mono hb.mono _ _ _ _ (skOf_after q34) k⟩
/-! ### lists, tuples -/
theorem IT.list {a : Addr} {st : Bool} {ds : List D} (s : SR c M T σ H ρ) (r : Rep c.g c.Z M H (.ref a) (.lst st ds)) : IT c M T H (L2.Itl c.g.K a) ds := by
  intro σ' M' H' ρ' q i
  have r' := r.moved (q.mv s)
  cases r' with
  | lst l rs =>
    rename_i vs
    refine ⟨fun d e => ?_, fun e => ⟨vs, l.sq, by rw [rs.length]; exact List.getElem?_eq_none_iff.mp e⟩⟩
    obtain ⟨v, h1, h2⟩ := rs.get e
    refine ⟨⟨vs, v, l.sq, h1⟩, fun x H'' y => ?_⟩
    obtain ⟨rfl, y⟩ := y
    have := y vs l.sq
    rw [h1] at this; cases this
    exact ⟨Ext.refl _, h2⟩
theorem IT.tup {a : Addr} {ds : List D} (s : SR c M T σ H ρ) (r : Rep c.g c.Z M H (.ref a) (.tup ds)) : IT c M T H (L2.Itt c.g.K a) ds := by
  intro σ' M' H' ρ' q i
  have r' := r.moved (q.mv s)
  cases r' with
  | tup l rs =>
    rename_i vs
    refine ⟨fun d e => ?_, fun e => ⟨vs, l, by rw [rs.length]; exact List.getElem?_eq_none_iff.mp e⟩⟩
    obtain ⟨v, h1, h2⟩ := rs.get e
    refine ⟨⟨vs, v, l, h1⟩, fun x H'' y => ?_⟩
    obtain ⟨rfl, y⟩ := y
    have := y vs l
    rw [h1] at this; cases this
    exact ⟨Ext.refl _, h2⟩
/-- a list that is looked at no more: its items -/
def stL : EV → Option (List D)
  | .v (.lst _ ds) => some ds
  | .m (.l ds) => some ds
  | _ => none
def itL (f : ES) : IS := fun ρ K E => f ρ (fun x ρ' => match stL x with
  | some ds => K ds ρ'
  | none => False) E
def itT (f : ES) : IS := fun ρ K E => f ρ (fun x ρ' => match asT x with
  | some ds => K ds ρ'
  | none => False) E
/-! ### ranges -/
def rngD (lo : Int) (n : Nat) : List D := (List.range n).map fun i => .int (lo + (i : Nat))
theorem IT.range {lo : Int} {n : Nat} : IT c M T H (L2.Itr lo n) (rngD lo n) := by
  intro σ' M' H' ρ' q i
  have hl : (rngD lo n).length = n := by unfold rngD; rw [List.length_map, List.length_range]
  refine ⟨fun d e => ?_, fun e => by have := List.getElem?_eq_none_iff.mp e; rw [hl] at this; exact this⟩
  obtain ⟨hi, ed⟩ := List.getElem?_eq_some_iff.mp e
  rw [hl] at hi
  have e2 : (rngD lo n)[i]? = some (.int (lo + (i : Nat))) := by unfold rngD; rw [List.getElem?_map, List.getElem?_range hi]; rfl
  rw [e2] at e; cases e
  refine ⟨hi, fun x H'' y => ?_⟩
  obtain ⟨rfl, rfl⟩ := y
  exact ⟨Ext.refl _, .int _⟩
def itR1 (g : AS) : IS := fun ρ K E => g ρ (fun xs ρ' => match xs with
  | [.v (.int j)] => (-(2 ^ 62) ≤ j ∧ j < 2 ^ 62) ∧ K (rngD 0 j.toNat) ρ'
  | _ => False) E
theorem ij_range1 {tg a : Expr} {g : AS} {pp pos : Pos} (hg : L2.Gl X "range") (hm : X.mg "range" = none) (ha : AJ X c W p [a] g) (hs : starEach [a] X.env = [(false, eval a X.env)] := by rfl) : IJ X c W p tg (.Call (.Name "range" pp) [a] [] pos) (itR1 g) := by
  refine ⟨fun ρ K K' E E' hk he q => ha.mono _ _ _ _ _ (fun xs ρ' q => by
    split at q
    · exact ⟨q.1, hk _ _ q.2⟩
    · exact q) he q, PI.imp (L2.pi_range1 hg hm ha.run hs) ?_⟩
  rintro σ H R ⟨ρ, M, T, s, k⟩
  refine ⟨ρ, M, T, s, ha.mono _ _ _ _ _ (fun xs ρ' k vs H' M' as q r => ?_) (fun _ _ h => h) k⟩
  split at k
  · obtain ⟨v, rfl, r1⟩ := r.one
    exact ⟨_, by rw [r1.int], k.1.1, k.1.2, k.2 _ H' M' q.drop .range⟩
  · exact k.elim
def itR2 (g : AS) : IS := fun ρ K E => g ρ (fun xs ρ' => match xs with
  | [.v (.int i), .v (.int j)] => (-(2 ^ 62) ≤ i ∧ i < 2 ^ 62 ∧ -(2 ^ 62) ≤ j ∧ j < 2 ^ 62) ∧ K (rngD i (j - i).toNat) ρ'
  | _ => False) E
/-! ### enumerate, zip, reversed of lists -/
def numd : Nat → List D → List D
  | _, [] => []
  | i, d :: ds => .tup [.int (i : Nat), d] :: numd (i + 1) ds
def itE (g : AS) : IS := fun ρ K E => g ρ (fun xs ρ' => match xs with
  | [x] => (match stL x with
    | some ds => K (numd 0 ds) ρ'
    | none => False)
  | _ => False) E
def zipd : List D → List D → List D
  | d :: ds, e :: es => .tup [d, e] :: zipd ds es
  | _, _ => []
theorem zipd_get : ∀ (ds es : List D) (i : Nat), (zipd ds es)[i]? = (ds[i]?).bind fun d => (es[i]?).map fun e => .tup [d, e]
  | [], es, i => by simp [zipd]
  | d :: ds, [], i => by simp [zipd]
  | d :: ds, e :: es, 0 => by simp [zipd]
  | d :: ds, e :: es, i + 1 => by simpa [zipd] using zipd_get ds es i
theorem IT.zip {a b : Addr} {st st2 : Bool} {ds es : List D} (s : SR c M T σ H ρ) (r : Rep c.g c.Z M H (.ref a) (.lst st ds)) (r2 : Rep c.g c.Z M H (.ref b) (.lst st2 es)) : IT c M T H (L2.Itz c.g.K a b) (zipd ds es) := by
  intro σ' M' H' ρ' q i
  have r' := r.moved (q.mv s)
  have r2' := r2.moved (q.mv s)
  cases r' with
  | lst l rs =>
    cases r2' with
    | lst l2 rs2 =>
      rename_i vs us
      have hg := zipd_get ds es i
      refine ⟨fun d e => ?_, fun e => ⟨vs, us, l.sq, l2.sq, ?_⟩⟩
      · cases e1 : ds[i]? with
        | none => rw [hg, e1] at e; cases e
        | some d1 =>
          cases e2 : es[i]? with
          | none => rw [hg, e1, e2] at e; cases e
          | some d2 =>
            rw [hg, e1, e2] at e
            simp only [Option.bind_some, Option.map_some, Option.some.injEq] at e
            obtain ⟨v, h1, h2⟩ := rs.get e1
            obtain ⟨u, h3, h4⟩ := rs2.get e2
            refine ⟨⟨vs, us, v, u, l.sq, l2.sq, h1, h3⟩, fun x H'' y => ?_⟩
            obtain ⟨T', x', y', rfl, hT, rfl, y1, y2⟩ := y
            have z1 := y1 vs l.sq
            have z2 := y2 us l2.sq
            rw [h1] at z1; cases z1
            rw [h3] at z2; cases z2
            refine ⟨Ext.new hT, ?_⟩
            rw [← e]
            exact .tup (.inl (.inl L2.upd_same)) (.cons (h2.ext (Ext.new hT)) (.cons (h4.ext (Ext.new hT)) .nil))
      · cases e1 : ds[i]? with
        | none => exact .inl (by rw [rs.length]; exact List.getElem?_eq_none_iff.mp e1)
        | some d1 =>
          cases e2 : es[i]? with
          | none => exact .inr (by rw [rs2.length]; exact List.getElem?_eq_none_iff.mp e2)
          | some d2 => rw [hg, e1, e2] at e; cases e
/-- both lists shared -/
def shL : EV → Option (List D)
  | .v (.lst _ ds) => some ds
  | _ => none
def itZ (g : AS) : IS := fun ρ K E => g ρ (fun xs ρ' => match xs with
  | [x, y] => (match shL x, shL y with
    | some ds, some es => K (zipd ds es) ρ'
    | _, _ => False)
  | _ => False) E
theorem IT.rev {a : Addr} {st : Bool} {ds : List D} {n : Nat} (s : SR c M T σ H ρ) (r : Rep c.g c.Z M H (.ref a) (.lst st ds)) (hn : n = ds.length) : IT c M T H (L2.Itv c.g.K a n) ds.reverse := by
  intro σ' M' H' ρ' q i
  have r' := r.moved (q.mv s)
  cases r' with
  | lst l rs =>
    rename_i vs
    refine ⟨fun d e => ?_, fun e => by have := List.getElem?_eq_none_iff.mp e; rw [List.length_reverse] at this; show n ≤ i; omega⟩
    obtain ⟨hi, _⟩ := List.getElem?_eq_some_iff.mp e
    rw [List.length_reverse] at hi
    rw [List.getElem?_reverse hi] at e
    obtain ⟨v, h1, h2⟩ := rs.get e
    rw [← hn] at h1
    refine ⟨⟨by omega, vs, v, l.sq, h1⟩, fun x H'' y => ?_⟩
    obtain ⟨rfl, y⟩ := y
    have := y vs l.sq
    rw [h1] at this; cases this
    exact ⟨Ext.refl _, h2⟩
def itV (g : AS) : IS := fun ρ K E => g ρ (fun xs ρ' => match xs with
  | [x] => (match stL x with
    | some ds => K ds.reverse ρ'
    | none => False)
  | _ => False) E
end
end VS
set_option Elab.async false
set_option linter.all false
set_option maxRecDepth 100000
set_option maxHeartbeats 4000000
/-! VS11: changes of a list that a slot owns; calls of defs that change what a slot owns. Own work. -/
namespace VS
open PySem PySem.Spec PyProof.Rows
open L2 (V Hp HO upd SqL SqT Rd Cx TE TT TA TS TG TGs TI It VK XK WX PE PT PA PS PSs PG PGs PI OpR RelV CallR Sp FnOk atI MtR)
section
variable {X : Cx} {c : Fr} {W : WX} {p p1 p2 : Bool} {M M1 M' M2 : Addr → Prop} {T T' as as1 as2 : List Addr} {σ σ1 : L2.St} {H H1 H' H2 : Hp} {ρ ρ1 ρ' ρ2 : Rho}
/-- a list that the slot i owns, and what comes of changing it -/
theorem SR.lst {i : Nat} {ds : List D} (s : SR c M T σ H ρ) (e : ρ[i]? = some (.l ds)) : ∃ a vs, σ[i]? = some (some (.ref a)) ∧ H a = some (.lst vs) ∧ Reps c.g c.Z M H vs ds ∧ M a ∧
    ∀ vs' ds', Reps c.g c.Z M H vs' ds' → Post c false σ M T H M T (upd H a (.lst vs')) (ρ.set i (.l ds')) := by
  obtain ⟨Ms, r, nd, al⟩ := s.slots
  obtain ⟨v, as, Ms', h1, h2, h3, h4, h5, h6⟩ := r.out e (by simp)
  obtain ⟨k1, k2, k3⟩ := h6 (List.nodup_append.mp nd).1
  cases h2 with
  | @l a vs _ hH rs =>
  have hMa : M a := al a (List.mem_append_left _ (h4 a (by simp)))
  refine ⟨a, vs, h1, hH, rs, hMa, fun vs' ds' rs' => ?_⟩
  have mv : Moved (fun b => b = a) M M H (upd H a (.lst vs')) := ⟨fun b o eb hb => by rw [L2.upd_ne hb]; exact eb, fun b hb => by rw [hb]; exact .inl ⟨_, hH⟩, fun b hb => by rw [hb]; exact hMa, fun b hb => .inl hb⟩
  have r3 := h3.moved mv fun b hb z => k3 a (by simp) (z ▸ hb)
  obtain ⟨Ms2, r4, m2, n2⟩ := RepS.put (.l (L2.upd_same) (rs'.moved mv)) r3 (i := i) (by rw [List.length_set]; exact (List.getElem?_eq_some_iff.mp e).1)
  rw [List.set_set, set_get h1] at r4
  have hsub : ∀ b ∈ Ms2, b ∈ Ms := fun b hb => by
    rcases m2 b hb with z | z
    · exact h5 b z
    · have : b = a := by simpa using z
      rw [this]; exact h4 a (by simp)
  have ty : ∀ b, M b → Typed (upd H a (.lst vs')) b := fun b hb => by
    by_cases z : b = a
    · rw [z]; exact .inl ⟨_, L2.upd_same⟩
    · rcases s.ty b hb with ⟨_, q⟩ | ⟨_, _, _, q⟩ | ⟨_, q⟩
      · exact .inl ⟨_, by rw [L2.upd_ne z]; exact q⟩
      · exact .inr (.inl ⟨_, _, _, by rw [L2.upd_ne z]; exact q⟩)
      · exact .inr (.inr ⟨_, by rw [L2.upd_ne z]; exact q⟩)
  obtain ⟨n1, n3, n4⟩ := List.nodup_append.mp nd
  have haT : a ∉ T := fun z => n4 a (h4 a (by simp)) a z rfl
  refine ⟨⟨⟨Ms2, r4, List.nodup_append.mpr ⟨n2 k2 (by simp) k3, n3, fun b hb d hd => n4 b (hsub b hb) d hd⟩, fun b hb => ?_⟩, ty, s.src, fun b o eb hb => ?_, s.pin, s.ln⟩, fun b o eb hb => ?_, fun b hb => .inl hb, fun e => nomatch e⟩
  · rcases List.mem_append.mp hb with z | z
    · exact al b (List.mem_append_left _ (hsub b z))
    · exact al b (List.mem_append_right _ z)
  · by_cases z : b = a
    · rcases s.src a hMa with q | q
      · exact absurd (z ▸ q) hb
      · rw [z] at eb; rw [q] at eb; cases eb
    · rw [L2.upd_ne z]; exact s.keep b o eb hb
  · have z : b ≠ a := fun z => haT (z ▸ hb (z ▸ hMa))
    rw [L2.upd_ne z]; exact eb
/-- shared from here on -/
def evD : EV → Option D
  | .v d => some d
  | .m s => frSl s
  | _ => none
theorem VRg.evD {v : V} {x : EV} {d : D} (q : Post c p σ M T H M' (as ++ T') H' ρ') (r : VR c M' H' v x as) (e : evD x = some d) :
    ∃ M2, Post c p σ M T H M2 T' H' ρ' ∧ Rep c.g c.Z M2 H' v d ∧ (∀ a, M2 a → M' a) ∧ ∀ a, M' a → a ∉ as → M2 a := by
  cases r with
  | v r => cases e; exact ⟨M', q, r, fun _ h => h, fun _ h _ => h⟩
  | b _ _ => cases e
  | m r =>
    refine ⟨fun a => M' a ∧ a ∉ as, ?_, ?_, fun a h => h.1, fun a h n => ⟨h, n⟩⟩
    · obtain ⟨Ms, rs, nd, al⟩ := q.sr.slots
      obtain ⟨n1, n2, n3⟩ := List.nodup_append.mp nd
      obtain ⟨m1, m2, m3⟩ := List.nodup_append.mp n2
      refine ⟨⟨⟨Ms, rs.re (fun _ _ n z => n z.1) (fun _ _ _ z => z), List.nodup_append.mpr ⟨n1, m2, fun a ha b hb => n3 a ha b (List.mem_append_right _ hb)⟩, fun a ha => ?_⟩, fun a h => q.sr.ty a h.1, fun a h => q.sr.src a h.1, q.sr.keep, q.sr.pin, q.sr.ln⟩, q.keep, fun a h => q.new a h.1, q.pu⟩
      rcases List.mem_append.mp ha with z | z
      · exact ⟨al a (List.mem_append_left _ z), fun y => n3 a z a (List.mem_append_left _ y) rfl⟩
      · exact ⟨al a (List.mem_append_right _ (List.mem_append_right _ z)), fun y => m3 a y a z rfl⟩
    · refine (r.re (M' := fun a => M' a ∧ a ∉ as) (fun _ _ n z => n z.1) (fun _ _ _ z => z)).freeze e fun a ha => ⟨fun z => z.2 ha, ?_⟩
      obtain ⟨Ms, _, _, al⟩ := q.sr.slots
      exact q.sr.noZ (al a (List.mem_append_right _ (List.mem_append_left _ ha)))
/-! ### methods of a list that a slot owns -/
/-- name.method(..): R tells, of the arguments and the list, what is yielded and what becomes of the list -/
abbrev LR := List EV → List D → (EV → List D → Prop) → Prop
def methL (i : Nat) (R : LR) (g : AS) : ES := fun ρ K E => (∃ ds, ρ[i]? = some (.l ds)) ∧ g ρ (fun xs ρ' => match ρ'[i]? with
  | some (.l ds) => R xs ds (fun x ds' => K x (ρ'.set i (.l ds')))
  | _ => False) E
theorem Post.then (q1 : Post c false σ M T H M1 T1 H1 ρ1) (q2 : Post c p σ M1 T1 H1 M2 T2 H2 ρ2) (ht : ∀ x ∈ T, x ∈ T1) : Post c false σ M T H M2 T2 H2 ρ2 := (q1.trans q2 ht).weak
def appL : LR := fun xs ds K => match xs with
  | [x] => (match evD x with
    | some d => ds.length < 1000000 ∧ K (.v .non) (ds ++ [d])
    | none => False)
  | _ => False
theorem lt_line {n : Nat} (h : n < 1000000) : n < sizeLine := Nat.lt_of_lt_of_le h (by decide)
def insL : LR := fun xs ds K => match xs with
  | [.v (.int k), x] => (match evD x with
    | some d => (ds.length < 1000000 ∧ 0 ≤ k ∧ k < 2 ^ 62) ∧ K (.v .non) (ds.take k.toNat ++ [d] ++ ds.drop k.toNat)
    | none => False)
  | _ => False
def clrL : LR := fun xs _ K => match xs with
  | [] => K (.v .non) []
  | _ => False
def popL : LR := fun xs ds K => match xs with
  | [] => (match ds[ds.length - 1]? with
    | some d => K (.v d) ds.dropLast
    | none => False)
  | _ => False
theorem Reps.dropLast {g : Ge} {Z : Addr → Prop} {vs : List V} {ds : List D} (r : Reps g Z M H vs ds) : Reps g Z M H vs.dropLast ds.dropLast := by
  rw [List.dropLast_eq_take, List.dropLast_eq_take, r.length]
  exact r.take _
/-- a list that is tracked: a look at an owned one, or a new one -/
def trL : EV → Option (List D)
  | .b ds => some ds
  | .m (.l ds) => some ds
  | _ => none
def extL : LR := fun xs ds K => match xs with
  | [x] => (match trL x with
    | some es => ds.length + es.length ≤ 1000000 ∧ K (.v .non) (ds ++ es)
    | none => False)
  | _ => False
/-! ### name[i] = value, the list owned by the slot -/
def setixS (p2 : Bool) (i : Nat) (f h : ES) : SS := fun ρ k => f ρ (fun x ρ1 => (∃ ds1, ρ1[i]? = some (.l ds1)) ∧ h ρ1 (fun y ρ2 => match evD x, y, ρ2[i]? with
  | some d, .v (.int n), some (.l ds) => (match L2.ixN ds.length n with
    | some j => okB p2 x ∧ k.nx (ρ2.set i (.l (ds.set j d)))
    | none => False)
  | _, _, _ => False) k.ex) k.ex
theorem sj_setix {i : Nat} {o e ix : Expr} {f h : ES} {pos tpos : Pos} (ho : PE X o (L2.tVar i)) (he : EJ X c W p1 e f) (hi : EJ X c W p2 ix h)
    (ha : ∀ v, assign (.Subscript o ix tpos) X.env v = (do
      let ov ← holding [v] (eval o X.env)
      let iv ← holding [v, ov] (eval ix X.env)
      standAt tpos
      holding [v, ov, iv] (setItem ov iv v)
      release [v, ov, iv] []) := by intro _; rfl)
    (hs : swapsWithSole [.Subscript o ix tpos] e pos.line X.env = pure false := by rfl) (hw : swappedStores [.Subscript o ix tpos] e X.env = pure none := by rfl) (h1 : (assignEach [.Subscript o ix tpos] X.env).map (·.2) = [assign (.Subscript o ix tpos) X.env] := by rfl) :
    SJ X c W (.Assign [.Subscript o ix tpos] e pos) (setixS p2 i f h) := by
  refine ⟨fun ρ k k' l q => he.mono _ _ _ _ _ (fun x ρ1 q => ⟨q.1, hi.mono _ _ _ _ _ (fun y ρ2 q => ?_) (fun _ _ => l.2.2.1 _ _) q.2⟩) (fun _ _ => l.2.2.1 _ _) q, PS.imp (L2.ps_asg he.run (L2.pg_sub ho hi.run L2.set_list ha) hs hw h1) ?_⟩
  · split at q
    · split at q
      · exact ⟨q.1, l.1 _ q.2⟩
      · exact q
    · exact q
  · rintro D σ H ⟨ρ, M, T, s, k⟩
    refine ⟨ρ, M, T, s, he.mono _ _ _ _ _ (fun x ρ1 k v H1 M1 as1 q1 r1 => ?_) (fun x ρ' k => exc_le x ρ' k) k⟩
    obtain ⟨⟨ds1, e1⟩, k⟩ := k
    obtain ⟨a, vs1, hv, _, _, _, _⟩ := q1.sr.lst e1
    refine ⟨.ref a, hv, ρ1, M1, as1 ++ T, q1.sr, hi.mono _ _ _ _ _ (fun y ρ2 k u H2 M2 as2 q2 r2 => ?_) (fun x ρ2 k cls dd H2 M2 q2 r2 => k σ cls dd H2 M2 (q1.trans q2 fun x hx => List.mem_append_right _ hx).weak.drop r2) k⟩
    split at k
    · rename_i d n ds ed e2
      split at k
      · rename_i j ej
        have r1' := r1.next q1.sr q2 (fun b hb => List.mem_append_left _ hb) k.1
        have en : as2 = [] := by cases r2; rfl
        subst en
        have q12 : Post c false σ M T H M2 (as1 ++ T) H2 ρ2 := (q1.trans q2 fun x hx => List.mem_append_right _ hx).weak
        obtain ⟨M3, q3, rd, _, _⟩ := VRg.evD q12 r1' ed
        obtain ⟨a', vs', hv', hH, rs, hMa, upd'⟩ := q3.sr.lst e2
        rw [hv] at hv'; cases hv'
        refine ⟨a, vs', n, j, rfl, r2.int, hH, by rw [rs.length]; exact ej, ?_⟩
        exact k.2 σ _ M3 (q3.then (upd' _ _ (Reps.set rd j rs)) fun _ z => z)
      · exact k.elim
    · exact k.elim
end
end VS
set_option Elab.async false
set_option linter.all false
set_option maxRecDepth 100000
set_option maxHeartbeats 4000000
/-! VS12: calls of defs that change what a slot owns. Own work. -/
namespace VS
open PySem PySem.Spec PyProof.Rows
open L2 (V Hp HO upd SqL SqT Rd Cx TE TT TA TS TG TGs TI It VK XK WX PE PT PA PS PSs PG PGs PI OpR RelV CallR Sp FnOk atI MtR)
/-- arguments of which one is the slot i -/
abbrev AIo := Rho → (List EV → List EV → Rho → Prop) → (Exc → Rho → Prop) → Prop
def MonoAI (f : AIo) : Prop := ∀ ρ K K' E E', (∀ x y ρ', K x y ρ' → K' x y ρ') → (∀ x ρ', E x ρ' → E' x ρ') → f ρ K E → f ρ K' E'
def rdAI (c : Fr) (W : WX) (i : Nat) (f : AIo) : TA := fun σ H Q => ∃ ρ M T, SR c M T σ H ρ ∧
  f ρ (fun xs ys ρ' => ∀ vs us v H' M' as, Post c false σ M T H M' (as ++ T) H' ρ' → VRs c M' H' (vs ++ us) (xs ++ ys) as → vs.length = xs.length → σ[i]? = some (some v) → Q (vs ++ v :: us) H')
    (fun x ρ' => ∀ cls dd H' M', Post c false σ M T H M' T H' ρ' → XRep c M' H' cls dd x → W cls dd σ H')
structure AJI (X : Cx) (c : Fr) (W : WX) (i n : Nat) (es : List Expr) (f : AIo) : Prop where
  mono : MonoAI f
  len : ∀ ρ K E, f ρ K E → f ρ (fun xs ys ρ' => xs.length = n ∧ K xs ys ρ') E
  run : PA X es (rdAI c W i f)
def hereA (i : Nat) (g : AS) : AIo := fun ρ K E => (∃ s, ρ[i]? = some s ∧ s ≠ .no) ∧ g ρ (fun ys ρ' => K [] ys ρ') E
def nextA (f : ES) (g : AIo) : AIo := fun ρ K E => f ρ (fun x ρ1 => g ρ1 (fun xs ys ρ2 => okB false x ∧ K (x :: xs) ys ρ2) E) E
/-- nothing looked at -/
def argS : EV → Option D
  | .v d => some d
  | .m s => frSl s
  | _ => none
def argSs : List EV → Option (List D)
  | [] => some []
  | x :: xs => (argS x).bind fun d => (argSs xs).map (d :: ·)
def callI (F : FS) (i : Nat) (f : AIo) : ES := fun ρ K E => f ρ (fun xs ys ρ1 => match argSs xs, argSs ys, ρ1[i]? with
  | some ds, some es, some s => s ≠ .no ∧ F (ds.map .v ++ s :: es.map .v) (fun x ts => match ts with
      | [t] => K x (ρ1.set i t)
      | _ => False) (fun x ts => match ts with
      | [t] => E x (ρ1.set i t)
      | _ => False)
  | _, _, _ => False) E
section
variable {X : Cx} {c : Fr} {W : WX} {p p1 p2 : Bool} {M M1 M' M2 : Addr → Prop} {T T' as as1 as2 : List Addr} {σ σ1 : L2.St} {H H1 H' H2 : Hp} {ρ ρ1 ρ' ρ2 : Rho}
theorem aji_here {i : Nat} {o : Expr} {es : List Expr} {g : AS} (ho : PE X o (L2.tVar i)) (ha : AJ X c W p es g) (hs : starEach (o :: es) X.env = (false, eval o X.env) :: starEach es X.env := by rfl) : AJI X c W i 0 (o :: es) (hereA i g) := by
  refine ⟨fun ρ K K' E E' hk he q => ⟨q.1, ha.mono _ _ _ _ _ (fun ys ρ' q => hk _ _ _ q) he q.2⟩, fun ρ K E q => ⟨q.1, ha.mono _ _ _ _ _ (fun ys ρ' q => ⟨rfl, q⟩) (fun _ _ h => h) q.2⟩, PA.imp (L2.pa_cons ho ha.run hs) ?_⟩
  rintro σ H Q ⟨ρ, M, T, s, ⟨s0, e0, n0⟩, k⟩
  obtain ⟨v, as, hv, _, _⟩ := s.read e0 n0
  exact ⟨v, hv, ρ, M, T, s, ha.mono _ _ _ _ _ (fun ys ρ' k us H' M' as q r => k [] us v H' M' as q.weak r rfl hv) (fun _ _ h => h) k⟩
theorem VRs.argSs {ex : List Addr} : ∀ {vs : List V} {xs : List EV} {as : List Addr} {ds : List D}, VRs c M H vs xs as → argSs xs = some ds → (∀ a ∈ as, ¬ c.Z a ∧ a ∉ ex) → (∀ a ∈ ex, M a) →
    Reps c.g (fun a => c.Z a ∨ (M a ∧ a ∉ as ∧ a ∉ ex)) (fun a => a ∈ ex) H vs ds
  | _, _, _, _, .nil, e, _, _ => by rw [VS.argSs] at e; cases e; exact .nil
  | _, x :: xs, _, _, .cons (as := as1) (bs := as2) r rs, e, hz, hx => by
    rw [VS.argSs] at e
    cases q : argS x with
    | none => rw [q] at e; cases e
    | some d =>
      cases q2 : VS.argSs xs with
      | none => rw [q, q2] at e; cases e
      | some ds =>
        rw [q, q2] at e; cases e
        have rs' := rs.argSs q2 (fun a h => hz a (List.mem_append_left _ h)) hx
        refine .cons ?_ (rs'.re (fun _ _ z => z) fun a _ _ h k => h ?_)
        · cases r with
          | v r => cases q; exact r.re (fun a _ n z => n (hx a z)) fun a _ n z k => k.elim z fun y => n y.1
          | b l r => cases q
          | m r =>
            have r' : RepO c.g (fun a => c.Z a ∨ (M a ∧ a ∉ as2 ++ as1 ∧ a ∉ ex)) (fun a => a ∈ ex) H _ _ as1 := r.re (fun a _ n z => n (hx a z)) fun a _ n z k => k.elim z fun y => n y.1
            exact r'.freeze q fun a ha => ⟨(hz a (List.mem_append_right _ ha)).2, fun k => k.elim (hz a (List.mem_append_right _ ha)).1 fun y => y.2.1 (List.mem_append_right _ ha)⟩
        · rcases k with k | ⟨k1, k2, k3⟩
          · exact .inl k
          · exact .inr ⟨k1, fun y => k2 (List.mem_append_left _ y), k3⟩
theorem VRs.split : ∀ {vs us : List V} {xs ys : List EV} {as : List Addr}, VRs c M H (vs ++ us) (xs ++ ys) as → vs.length = xs.length → ∃ as1 as2, VRs c M H vs xs as1 ∧ VRs c M H us ys as2 ∧ as = as2 ++ as1
  | [], us, [], ys, as, r, _ => ⟨[], as, .nil, r, by simp⟩
  | [], _, _ :: _, _, _, _, h => by simp at h
  | _ :: _, _, [], _, _, _, h => by simp at h
  | v :: vs, us, x :: xs, ys, _, .cons (as := a1) (bs := bs) r rs, h => by
    obtain ⟨b1, b2, r1, r2, e⟩ := rs.split (by simpa using h)
    exact ⟨b1 ++ a1, b2, .cons r r1, r2, by rw [e, List.append_assoc]⟩
theorem RepOs.mid {g : Ge} {Z : Addr → Prop} {v : V} {s : Sl} {as : List Addr} (r : RepO g Z M H v s as) {us : List V} {es : List D} (re : Reps g Z M H us es) : ∀ {vs : List V} {ds : List D}, Reps g Z M H vs ds → RepOs g Z M H (vs ++ v :: us) (ds.map .v ++ s :: es.map .v) as
  | _, _, .nil => by
    have := RepOs.cons r (repOs_v re)
    rw [List.append_nil] at this; exact this
  | _, _, .cons q qs => RepOs.cons (as := []) (.v q) (RepOs.mid r re qs)
theorem pick_one {α : Type} : ∀ (k m : Nat) {l1 l2 : List α} {x : α}, l1.length = k → pick (List.replicate k false ++ true :: List.replicate m false) (l1 ++ x :: l2) = [x]
  | 0, m, [], l2, x, _ => by
    show x :: pick (List.replicate m false) l2 = [x]
    rw [pick_no fun b hb => List.eq_of_mem_replicate hb]
  | 0, _, _ :: _, _, _, h => by simp at h
  | _ + 1, _, [], _, _, h => by simp at h
  | k + 1, m, y :: l1, l2, x, h => by
    show pick (List.replicate k false ++ true :: List.replicate m false) (l1 ++ x :: l2) = [x]
    exact pick_one k m (by simpa using h)
/-- behind a call that changed what the slot i owns -/
theorem Post.callI {i : Nat} {t : Sl} {v : V} {asI ias ras Ms' : List Addr} (q : Post c p σ M T H M1 (as ++ T) H1 ρ1) (hv : σ[i]? = some (some v)) (hi : i < ρ1.length)
    (Ms : List Addr) (nd : (Ms ++ (as ++ T)).Nodup) (al : ∀ a ∈ Ms ++ (as ++ T), M1 a) (hI : ∀ a ∈ asI, a ∈ Ms) (hMs : ∀ a ∈ Ms', a ∈ Ms) (ndI : asI.Nodup ∧ Ms'.Nodup ∧ ∀ a ∈ asI, a ∉ Ms') (rest : RepS c.g c.Z M1 H1 σ (ρ1.set i .no) Ms')
    (keep : ∀ b o, H1 b = some o → b ∉ asI → H2 b = some o) (n2 : (ras ++ ias).Nodup) (new : ∀ a ∈ ras ++ ias, a ∈ asI ∨ H1 a = none) (ty : ∀ a ∈ ras ++ ias, Typed H2 a)
    (rt : RepO c.g c.Z (fun a => (M1 a ∧ a ∉ as ∧ a ∉ asI) ∨ a ∈ ras ++ ias) H2 v t ias) :
    Post c false σ M T H (fun a => (M1 a ∧ a ∉ as ∧ a ∉ asI) ∨ a ∈ ras ++ ias) (ras ++ T) H2 (ρ1.set i t) := by
  obtain ⟨nd1, nd2, nd3⟩ := List.nodup_append.mp nd
  obtain ⟨nd4, nd5, nd6⟩ := List.nodup_append.mp nd2
  have hIM : ∀ a ∈ asI, M1 a := fun a h => al a (List.mem_append_left _ (hI a h))
  have tyI : ∀ a ∈ asI, Typed H1 a := fun a h => q.sr.ty a (hIM a h)
  have r1 : RepS c.g c.Z (fun a => M1 a ∧ a ∉ as) H1 σ (ρ1.set i .no) Ms' := rest.re (fun _ _ n z => n z.1) fun _ _ _ z => z
  have mv : Moved (fun a => a ∈ asI) (fun a => M1 a ∧ a ∉ as) (fun a => (M1 a ∧ a ∉ as ∧ a ∉ asI) ∨ a ∈ ras ++ ias) H1 H2 := by
    refine ⟨fun b o e h => keep b o e h, tyI, fun a h => ⟨hIM a h, fun z => nd3 a (hI a h) a (List.mem_append_left _ z) rfl⟩, fun a h => ?_⟩
    rcases h with h | h
    · exact .inl ⟨h.1, h.2.1⟩
    · rcases new a h with z | z
      · exact .inl ⟨hIM a z, fun y => nd3 a (hI a z) a (List.mem_append_left _ y) rfl⟩
      · exact .inr z
  have r2 := r1.moved mv fun a h z => ndI.2.2 a z h
  obtain ⟨Ms2, r3, m2, k2⟩ := RepS.put rt r2 (i := i) (by rw [List.length_set]; exact hi)
  rw [List.set_set, set_get hv] at r3
  -- what is new or was owned by the slot
  have dj : ∀ a ∈ ras ++ ias, a ∉ Ms' ∧ a ∉ T := fun a h => by
    rcases new a h with z | z
    · exact ⟨ndI.2.2 a z, fun y => nd3 a (hI a z) a (List.mem_append_right _ y) rfl⟩
    · exact ⟨fun y => (q.sr.ty a (al a (List.mem_append_left _ (hMs a y)))).ne z, fun y => (q.sr.ty a (al a (List.mem_append_right _ (List.mem_append_right _ y)))).ne z⟩
  obtain ⟨n3, n4, n5⟩ := List.nodup_append.mp n2
  have nd7 : Ms2.Nodup := k2 ndI.2.1 n4 fun a h => (dj a (List.mem_append_right _ h)).1
  have hMM : ∀ b o, H1 b = some o → b ∉ asI → H2 b = some o := keep
  refine ⟨⟨⟨Ms2, r3, ?_, fun a h => ?_⟩, fun a h => ?_, fun a h => ?_, fun b o e h => ?_, q.sr.pin, q.sr.ln⟩, fun b o e h => ?_, fun a h => ?_, fun e => nomatch e⟩
  · refine List.nodup_append.mpr ⟨nd7, List.nodup_append.mpr ⟨n3, nd5, fun a h b hb e => (dj a (List.mem_append_left _ h)).2 (e ▸ hb)⟩, fun a h b hb e => ?_⟩
    subst e
    rcases List.mem_append.mp hb with z | z
    · rcases m2 a h with y | y
      · exact (dj a (List.mem_append_left _ z)).1 y
      · exact n5 a z a y rfl
    · rcases m2 a h with y | y
      · exact nd3 a (hMs a y) a (List.mem_append_right _ z) rfl
      · exact (dj a (List.mem_append_right _ y)).2 z
  · rcases List.mem_append.mp h with z | z
    · rcases m2 a z with y | y
      · exact .inl ⟨al a (List.mem_append_left _ (hMs a y)), fun w => nd3 a (hMs a y) a (List.mem_append_left _ w) rfl, fun w => ndI.2.2 a w y⟩
      · exact .inr (List.mem_append_right _ y)
    · rcases List.mem_append.mp z with z | z
      · exact .inr (List.mem_append_left _ z)
      · exact .inl ⟨al a (List.mem_append_right _ (List.mem_append_right _ z)), fun w => nd6 a w a z rfl, fun w => nd3 a (hI a w) a (List.mem_append_right _ z) rfl⟩
  · rcases h with h | h
    · rcases q.sr.ty a h.1 with ⟨_, e⟩ | ⟨_, _, _, e⟩ | ⟨_, e⟩
      · exact .inl ⟨_, keep _ _ e h.2.2⟩
      · exact .inr (.inl ⟨_, _, _, keep _ _ e h.2.2⟩)
      · exact .inr (.inr ⟨_, keep _ _ e h.2.2⟩)
    · exact ty a h
  · rcases h with h | h
    · exact q.sr.src a h.1
    · rcases new a h with z | z
      · exact q.sr.src a (hIM a z)
      · by_cases y : a ∈ c.io
        · exact .inl y
        · refine .inr ?_
          cases e : c.H0 a with
          | none => rfl
          | some u => have := q.sr.keep a u e y; rw [z] at this; cases this
  · refine keep b o (q.sr.keep b o e h) fun z => ?_
    rcases q.sr.src b (hIM b z) with y | y
    · exact h y
    · rw [y] at e; cases e
  · refine keep b o (q.keep b o e h) fun z => ?_
    rcases q.new b (hIM b z) with y | y
    · exact nd3 b (hI b z) b (List.mem_append_right _ (h y)) rfl
    · rw [y] at e; cases e
  · rcases h with h | h
    · exact q.new a h.1
    · rcases new a h with z | z
      · exact q.new a (hIM a z)
      · by_cases y : M a
        · exact .inl y
        · refine .inr ?_
          cases e : H a with
          | none => rfl
          | some u => have := q.keep a u e fun w => absurd w y; rw [z] at this; cases this
theorem callI_run {mask : List Bool} {F : FS} {es : List Expr} {f : AIo} {i kk mm : Nat} (hm : mask = List.replicate kk false ++ true :: List.replicate mm false) (hF : MonoF F) (hl : ∀ ss K E, F ss K E → ss.length = mask.length) (ha : AJI X c W i kk es f) :
    ∀ σ H Q, rdE c W false (callI F i f) σ H Q → rdAI c W i f σ H (fun vs H1 => spV c.g mask F vs H1 Q (L2.WE W σ)) := by
  rintro σ H Q ⟨ρ, M, T, s, h⟩
  refine ⟨ρ, M, T, s, ha.mono _ _ _ _ _ (fun xs ys ρ1 k vs us v H1 M1 as q r hlen hv => ?_) (fun _ _ h => h) (ha.len _ _ _ h)⟩
  obtain ⟨hxk, k⟩ := k
  split at k
  · rename_i ds es' s1 e1 e2 e3
    obtain ⟨sn, k⟩ := k
    obtain ⟨Ms, rS, nd, al⟩ := q.sr.slots
    obtain ⟨v', asI, Ms', h1, h2, h3, h4, h5, h6⟩ := rS.out e3 sn
    rw [hv] at h1; cases h1
    have ndI := h6 (List.nodup_append.mp nd).1
    obtain ⟨nd1, nd2, nd3⟩ := List.nodup_append.mp nd
    have hIM : ∀ a ∈ asI, M1 a := fun a h => al a (List.mem_append_left _ (h4 a h))
    have hz : ∀ a ∈ as, ¬ c.Z a ∧ a ∉ asI := fun a h => ⟨q.sr.noZ (al a (List.mem_append_right _ (List.mem_append_left _ h))), fun z => nd3 a (h4 a z) a (List.mem_append_left _ h) rfl⟩
    obtain ⟨b1, b2, r1, r2, rfl⟩ := r.split hlen
    have d1 := r1.argSs (ex := asI) e1 (fun a h => hz a (List.mem_append_right _ h)) hIM
    have d2 := r2.argSs (ex := asI) e2 (fun a h => hz a (List.mem_append_left _ h)) hIM
    have d1' : Reps c.g (fun a => c.Z a ∨ (M1 a ∧ a ∉ b2 ++ b1 ∧ a ∉ asI)) (fun a => a ∈ asI) H1 vs ds := d1.re (fun _ _ z => z) fun a _ _ n k => n (k.imp id fun y => ⟨y.1, fun w => y.2.1 (List.mem_append_right _ w), y.2.2⟩)
    have d2' : Reps c.g (fun a => c.Z a ∨ (M1 a ∧ a ∉ b2 ++ b1 ∧ a ∉ asI)) (fun a => a ∈ asI) H1 us es' := d2.re (fun _ _ z => z) fun a _ _ n k => n (k.imp id fun y => ⟨y.1, fun w => y.2.1 (List.mem_append_left _ w), y.2.2⟩)
    have ds' : RepO c.g (fun a => c.Z a ∨ (M1 a ∧ a ∉ b2 ++ b1 ∧ a ∉ asI)) (fun a => a ∈ asI) H1 v s1 asI := h2.re (fun a _ n z => n (hIM a z)) fun a _ n z k => k.elim z fun y => n y.1
    have hi : i < ρ1.length := (List.getElem?_eq_some_iff.mp e3).1
    refine ⟨_, _, asI, fun a z => ?_, fun a h k => ?_, RepOs.mid ds' d2' d1', ndI.1, hl _ _ _ k, hF _ _ _ _ _ (fun x ts k w H2 ras ias cp rv re => ?_) (fun x ts k cls dd H2 ias cp rx re => ?_) k⟩
    · rcases z with z | z
      · intro e4
        by_cases y : a ∈ c.io
        · exact c.zi a y z
        · cases e5 : c.H0 a with
          | none => exact c.zd a z e5
          | some o => have := q.sr.keep a o e5 y; rw [e4] at this; cases this
      · exact (q.sr.ty a z.1).ne
    · rcases k with k | k
      · exact q.sr.noZ (hIM a h) k
      · exact k.2.2 h
    · split at k
      · rename_i t
        have io := cp.io
        rw [hm, pick_one kk mm (by rw [hlen]; exact hxk)] at io
        cases io with
        | cons rt rn =>
        cases rn
        rename_i ias
        rw [List.append_nil] at cp rv
        have hret : retSl t = true := by have := cp.ret; simpa [retSls] using this
        have rt' : RepO c.g c.Z (fun a => (M1 a ∧ a ∉ b2 ++ b1 ∧ a ∉ asI) ∨ a ∈ ras ++ ias) H2 v t ias := by
          rw [List.append_nil] at rt
          exact rt.back (fun a _ n z y => y.elim (fun y => z (.inr y)) n) (fun a _ n z y => z (.inl y)) hret
        have ty : ∀ a ∈ ras ++ ias, Typed H2 a := fun a h => by
          rcases List.mem_append.mp h with h | h
          · exact rv.typed a h
          · exact rt'.typed a h
        exact k w H2 _ ras (q.callI hv hi Ms nd al h4 h5 ndI h3 cp.keep cp.nd cp.new ty rt') (rv.back (fun a _ n z y => y.elim (fun y => z (.inr y)) n) (fun a _ n z y => z (.inl y)) re)
      · exact k.elim
    · split at k
      · rename_i t
        have io := cp.io
        rw [hm, pick_one kk mm (by rw [hlen]; exact hxk)] at io
        cases io with
        | cons rt rn =>
        cases rn
        rename_i ias
        rw [List.append_nil] at cp rx
        have hret : retSl t = true := by have := cp.ret; simpa [retSls] using this
        have rt' : RepO c.g c.Z (fun a => (M1 a ∧ a ∉ b2 ++ b1 ∧ a ∉ asI) ∨ a ∈ [] ++ ias) H2 v t ias := by
          rw [List.append_nil] at rt
          exact rt.back (fun a _ n z y => y.elim (fun y => z (.inr y)) n) (fun a _ n z y => z (.inl y)) hret
        exact k cls dd H2 _ (q.callI hv hi Ms nd al h4 h5 ndI h3 cp.keep cp.nd cp.new (fun a h => rt'.typed a (by simpa using h)) rt') (rx.back (fun a _ n z y => y.elim (fun y => z (.inr y)) (fun w => n (by simpa using w))) (fun a _ n z y => z (.inl y)) re)
      · exact k.elim
  · exact k.elim
theorem callI_mono {F : FS} {f : AIo} {i : Nat} (hF : MonoF F) (hf : MonoAI f) : Mono (callI F i f) := fun ρ K K' E E' hk he h => hf _ _ _ _ _ (fun xs ys ρ1 h => by
  split at h
  · refine ⟨h.1, hF _ _ _ _ _ (fun x ts h => ?_) (fun x ts h => ?_) h.2⟩
    · split at h
      · exact hk _ _ h
      · exact h
    · split at h
      · exact he _ _ h
      · exact h
  · exact h) he h
/-- f(.., name, ..) of a def that changes the one thing that is handed as a name -/
theorem ej_callI {mask : List Bool} {F : FS} {i j k kk mm : Nat} {ps : List Str} {x : Str} {pp pos : Pos} {e : Expr} {es : List Expr} {f : AIo} (d : Def X.prog X.w c.g.K c.g.mg X.base j x ps mask F) (hm : mask = List.replicate kk false ++ true :: List.replicate mm false)
    (hK : X.K = c.g.K) (hmg : X.mg = c.g.mg) (hr : L2.Room k X.A) (hjk : j ≤ k) (hg : L2.Gl X x) (tk : L2.Takes X W)
    (ha : AJI X c W i kk (e :: es) f) (hdb : (x == ("__debug__" : Str)) = false := by decide) (he : starEach (e :: es) X.env = (false, eval e X.env) :: starEach es X.env := by rfl) (hpl : (backTo pos (starEach es X.env)).any (·.1) = false := by rfl) :
    EJ X c W false (.Call (.Name x pp) (e :: es) [] pos) (callI F i f) := by
  obtain ⟨g, fd, G, h1, h2, h3⟩ := d.ex
  have G' : FnOk X.prog X.w X.K X.mg X.base (L2.CX X.prog X.w) j g fd ps (spV c.g mask F) := by rw [hK, hmg]; exact G
  exact ⟨callI_mono d.mono ha.mono, PE.imp (L2.pe_callS (E := L2.WE W) G' (hr.mono hjk) hg (by rw [hmg]; exact h1) (by rw [hK]; exact h2) (by rw [hK]; exact h3.1) (fun σ => L2.passAt tk σ) ha.run hdb he hpl) (callI_run hm d.mono d.len ha)⟩
/-! the thing that is changed is new and nobody's -/
/-- the arguments, one of them a new thing that is changed -/
def callN (F : FS) (kk : Nat) (g : AS) : ES := fun ρ K E => g ρ (fun xs ρ1 => match argSs (xs.take kk), xs[kk]?, argSs (xs.drop (kk + 1)) with
  | some ds, some (.m s), some es => F (ds.map .v ++ s :: es.map .v) (fun x ts => match ts with
      | [_] => K x ρ1
      | _ => False) (fun x ts => match ts with
      | [_] => E x ρ1
      | _ => False)
  | _, _, _ => False) E
theorem VRs.take : ∀ (k : Nat) {vs : List V} {xs : List EV} {as : List Addr}, VRs c M H vs xs as → ∃ a1 a2, VRs c M H (vs.take k) (xs.take k) a1 ∧ VRs c M H (vs.drop k) (xs.drop k) a2 ∧ as = a2 ++ a1
  | 0, vs, xs, as, r => ⟨[], as, by rw [List.take_zero, List.take_zero]; exact .nil, r, by simp⟩
  | k + 1, _, _, _, .nil => ⟨[], [], .nil, .nil, rfl⟩
  | k + 1, _, _, _, .cons (as := as) (bs := bs) r rs => by
    obtain ⟨a1, a2, h1, h2, e⟩ := rs.take k
    exact ⟨a1 ++ as, a2, .cons r h1, h2, by rw [e, List.append_assoc]⟩
end
end VS
set_option Elab.async false
set_option linter.all false
set_option maxRecDepth 100000
set_option maxHeartbeats 4000000
/-! VS13: what is walked, list or tuple; constants of the module. Own work. -/
namespace VS
open PySem PySem.Spec PyProof.Rows
open L2 (V Hp HO upd SqL SqT Rd Cx TE TT TA TS TG TGs TI It VK XK WX PE PT PA PS PSs PG PGs PI OpR RelV CallR Sp FnOk atI MtR)
section
variable {X : Cx} {c : Fr} {W : WX} {p p1 p2 : Bool} {M M1 M' M2 : Addr → Prop} {T T' as as1 as2 : List Addr} {σ σ1 : L2.St} {H H1 H' H2 : Hp} {ρ ρ1 ρ' ρ2 : Rho}
/-- a list that is looked at no more, or a tuple -/
def itS (f : ES) : IS := fun ρ K E => f ρ (fun x ρ' => match asT x with
  | some ds => K ds ρ'
  | none => (match stL x with
    | some ds => K ds ρ'
    | none => False)) E
/-- -n of a written number -/
def negE (f : ES) : ES := fun ρ K E => f ρ (fun x ρ' => match x with
  | .v (.int i) => K (.v (.int (-i))) ρ'
  | _ => False) E
end
end VS
set_option Elab.async false
set_option linter.all false
set_option maxRecDepth 100000
set_option maxHeartbeats 4000000
/-! VS16: list comprehensions. Own work. -/
namespace VS
open PySem PySem.Spec PyProof.Rows
open L2 (V Hp HO upd SqL SqT Rd Cx TE TT TA TS TG TGs TI It VK XK WX PE PT PTs PA PS PSs PG PGs PI OpR RelV CallR Sp FnOk atI wipe)
def wipeR (ρ : Rho) : List Nat → Rho
  | [] => ρ
  | v :: vs => (wipeR ρ vs).set v .no
/-- [f for g in ds if t], each turn from ρ; it leaves what was there -/
def compD (vs : List Nat) (g : GS) (t : BS) (f : ES) (ρ : Rho) : List D → List D → (List D → Prop) → Prop
  | [], acc, K => K acc
  | d :: ds, acc, K => g (.v d) ρ (fun ρ1 => t ρ1 (fun b ρ2 => if b = true then f ρ2 (fun x ρ3 => wipeR ρ3 vs = ρ ∧ match evD x with
      | some e => compD vs g t f ρ ds (acc ++ [e]) K
      | none => False) (fun _ _ => False) else wipeR ρ2 vs = ρ ∧ compD vs g t f ρ ds acc K) (fun _ _ => False))
def compE (vs : List Nat) (it : IS) (g : GS) (t : BS) (f : ES) : ES := fun ρ K E => it ρ (fun ds ρ1 => ds.length ≤ 1000000 ∧ compD vs g t f (wipeR ρ1 vs) ds [] (fun out => K (.m (.l out)) (wipeR ρ1 vs))) E
def yesT : BS := fun ρ K _ => K true ρ
abbrev W0 : WX := fun _ _ _ _ => False
structure TJs (X : Cx) (c : Fr) (W : WX) (p : Bool) (es : List Expr) (f : BS) : Prop where
  mono : MonoB f
  run : PTs X es (rdT c W p f)
def rdGW (c : Fr) (vs : List Nat) (f : GS) : TG := fun v σ H Q => ∃ ρ M T s as, SR c M (as ++ T) σ H ρ ∧ RepO c.g c.Z M H v s as ∧ f s ρ (fun ρ' => ∀ σ' M', SR c M' T σ' H ρ' → (∀ a, M' a → M a) → wipe σ' vs = wipe σ vs → Q σ' H)
structure GW (X : Cx) (c : Fr) (vs : List Nat) (e : Expr) (f : GS) : Prop where
  mono : MonoG f
  run : PG X e (rdGW c vs f)
theorem wipe_get {σ : L2.St} : ∀ {vs : List Nat} (j : Nat), (wipe σ vs)[j]? = if j ∈ vs then (if j < σ.length then some none else none) else σ[j]?
  | [], j => by simp [wipe]
  | v :: vs, j => by
    unfold wipe
    by_cases e : v = j
    · subst e
      rw [List.getElem?_set]
      simp [L2.wipe_length]
    · rw [List.getElem?_set_ne e, wipe_get j]
      have : (j ∈ v :: vs) = (j ∈ vs) := by simp [Ne.symm e]
      simp only [this]
theorem wipe_set {σ : L2.St} {vs : List Nat} {i : Nat} {x : Option V} (h : i ∈ vs) : wipe (σ.set i x) vs = wipe σ vs := by
  apply List.ext_getElem?
  intro j
  rw [wipe_get, wipe_get]
  by_cases e : j ∈ vs
  · rw [if_pos e, if_pos e, List.length_set]
  · rw [if_neg e, if_neg e, List.getElem?_set_ne (by intro z; subst z; exact e h)]
theorem wipe_wipe {σ : L2.St} {vs : List Nat} : wipe (wipe σ vs) vs = wipe σ vs := by
  apply List.ext_getElem?
  intro j
  rw [wipe_get, wipe_get, L2.wipe_length]
  by_cases e : j ∈ vs
  · rw [if_pos e, if_pos e]
  · rw [if_neg e, if_neg e]
section
variable {g : Ge} {Z M : Addr → Prop} {H : Hp}
theorem RepS.wipe1 : ∀ {σ : L2.St} {ρ : Rho} {Ms : List Addr}, RepS g Z M H σ ρ Ms → ∀ v, ∃ Ms', RepS g Z M H (σ.set v none) (ρ.set v .no) Ms' ∧ Ms'.Sublist Ms
  | _, _, _, .nil, v => ⟨[], .nil, List.Sublist.refl _⟩
  | _, _, _, .no (as := as) r, 0 => ⟨as, .no r, List.Sublist.refl _⟩
  | _, _, _, .no r, v + 1 => by
    obtain ⟨Ms', r', s⟩ := r.wipe1 v
    exact ⟨Ms', .no r', s⟩
  | _, _, _, .yes (bs := bs) q r, 0 => ⟨bs, .no r, List.sublist_append_right _ _⟩
  | _, _, _, .yes q r, v + 1 => by
    obtain ⟨Ms', r', s⟩ := r.wipe1 v
    exact ⟨_ ++ Ms', .yes q r', List.Sublist.append (List.Sublist.refl _) s⟩
theorem RepS.wipe : ∀ (vs : List Nat) {σ : L2.St} {ρ : Rho} {Ms : List Addr}, RepS g Z M H σ ρ Ms → ∃ Ms', RepS g Z M H (L2.wipe σ vs) (wipeR ρ vs) Ms' ∧ Ms'.Sublist Ms
  | [], _, _, Ms, r => ⟨Ms, r, List.Sublist.refl _⟩
  | v :: vs, _, _, _, r => by
    obtain ⟨Ms1, r1, s1⟩ := RepS.wipe vs r
    obtain ⟨Ms2, r2, s2⟩ := r1.wipe1 v
    exact ⟨Ms2, r2, s2.trans s1⟩
theorem RepS.unwipe1 : ∀ {σ : L2.St} (v : Nat) {ρ : Rho} {Ms : List Addr}, RepS g Z M H (σ.set v none) ρ Ms → RepS g Z M H σ ρ Ms
  | [], _, _, _, r => r
  | x :: σ, 0, _, _, r => by
    cases r with
    | no r => exact .no r
  | x :: σ, v + 1, _, _, r => by
    cases r with
    | no r => exact .no (RepS.unwipe1 v r)
    | yes q r => exact .yes q (RepS.unwipe1 v r)
theorem RepS.unwipe : ∀ (vs : List Nat) {σ : L2.St} {ρ : Rho} {Ms : List Addr}, RepS g Z M H (L2.wipe σ vs) ρ Ms → RepS g Z M H σ ρ Ms
  | [], _, _, _, r => r
  | v :: vs, _, _, _, r => RepS.unwipe vs (RepS.unwipe1 v r)
end
section
variable {X : Cx} {c : Fr} {W : WX} {p p1 p2 : Bool} {M M1 M' M2 : Addr → Prop} {T T' as as1 as2 : List Addr} {σ σ1 : L2.St} {H H1 H' H2 : Hp} {ρ ρ1 ρ' ρ2 : Rho}
theorem SR.wipe {vs : List Nat} (hm : ∀ v ∈ vs, c.mask[v]? ≠ some true) (s : SR c M T σ H ρ) : SR c M T (L2.wipe σ vs) H (wipeR ρ vs) := by
  obtain ⟨Ms, r, nd, al⟩ := s.slots
  obtain ⟨Ms', r', sb⟩ := r.wipe vs
  refine ⟨⟨Ms', r', nd.sublist (List.Sublist.append sb (List.Sublist.refl _)), fun a h => al a ?_⟩, s.ty, s.src, s.keep, fun j hj => ?_, by rw [L2.wipe_length]; exact s.ln⟩
  · rcases List.mem_append.mp h with h | h
    · exact List.mem_append_left _ (sb.subset h)
    · exact List.mem_append_right _ h
  · rw [wipe_get, if_neg (fun z => hm j z hj)]
    exact s.pin j hj
theorem SR.unwipe {vs : List Nat} (hm : ∀ v ∈ vs, c.mask[v]? ≠ some true) (s : SR c M T (L2.wipe σ vs) H ρ) : SR c M T σ H ρ := by
  obtain ⟨Ms, r, nd, al⟩ := s.slots
  refine ⟨⟨Ms, r.unwipe vs, nd, al⟩, s.ty, s.src, s.keep, fun j hj => ?_, by rw [← s.ln, L2.wipe_length]⟩
  have := s.pin j hj
  rwa [wipe_get, if_neg (fun z => hm j z hj)] at this
theorem gw_name {i : Nat} {fz : Bool} {vs : List Nat} {x : Str} {pos : Pos} (hv : i ∈ vs) (hm : c.mask[i]? ≠ some true) (hN : X.N.Nodup) (hi : X.N[i]? = some x) (hx : L2.Loc X.env.scope x) (hf : X.fn x = true ∨ X.env.scope.names.lookup x = some .local) : GW X c vs (.Name x pos) (gN i fz) := by
  refine ⟨fun s ρ K K' hk h => ?_, PG.imp (L2.pg_name hN hi hx hf) ?_⟩
  · unfold gN at h ⊢
    split at h
    · exact ⟨h.1, hk _ h.2⟩
    · exact h
  · rintro v σ H Q ⟨ρ, M, T, s, as, sr, r, h⟩
    unfold gN at h
    split at h
    · rename_i s' e
      cases fz with
      | false =>
        simp only [Bool.false_eq_true, if_false, Option.some.injEq] at e
        subst e
        exact h.2 _ M (sr.put r h.1 hm) (fun _ h => h) (wipe_set hv)
      | true =>
        cases e2 : frSl s with
        | none => simp [e2] at e
        | some d =>
          simp only [e2, if_true, Option.map_some, Option.some.injEq] at e
          subst e
          obtain ⟨sr2, r2⟩ := sr.frz r e2
          exact h.2 _ (fun a => M a ∧ a ∉ as) (sr2.put (as := []) (.v r2) h.1 hm) (fun _ h => h.1) (wipe_set hv)
    · exact h.elim
theorem tjs_nil : TJs X c W true [] yesT := ⟨fun _ _ _ _ _ hk _ h => hk _ _ h, ⟨fun pins s σ H Q I ⟨ρ, M, T, sr, k⟩ => L2.pts_nil.run pins s σ H Q I (k H M (Post.refl sr))⟩⟩
theorem compD_mono {vs : List Nat} {g : GS} {t : BS} {f : ES} {ρ : Rho} (hg : MonoG g) (ht : MonoB t) (hf : Mono f) : ∀ (ds acc : List D) (K K' : List D → Prop), (∀ o, K o → K' o) → compD vs g t f ρ ds acc K → compD vs g t f ρ ds acc K'
  | [], acc, K, K', hk, h => hk _ h
  | d :: ds, acc, K, K', hk, h => hg _ _ _ _ (fun ρ1 h => ht _ _ _ _ _ (fun b ρ2 h => by
      split at h
      · rename_i hb; rw [if_pos hb]
        refine hf _ _ _ _ _ (fun x ρ3 h => ⟨h.1, ?_⟩) (fun _ _ h => h) h
        have h2 := h.2
        split at h2
        · exact compD_mono hg ht hf ds _ K K' hk h2
        · exact h2.elim
      · rename_i hb; rw [if_neg hb]
        exact ⟨h.1, compD_mono hg ht hf ds _ K K' hk h.2⟩) (fun _ _ h => h) h) h
theorem SR.appT {D : Addr} {vals vals' : List V} (s : SR c M (D :: T) σ H ρ) (h : H D = some (.lst vals)) : SR c M (D :: T) σ (upd H D (.lst vals')) ρ := by
  obtain ⟨Ms, r, nd, al⟩ := s.slots
  have mD : M D := al D (List.mem_append_right _ List.mem_cons_self)
  have nD : D ∉ Ms := fun z => (List.nodup_append.mp nd).2.2 D z D List.mem_cons_self rfl
  have mv : Moved (fun a => a = D) M M H (upd H D (.lst vals')) := ⟨fun b o e hb => by rw [L2.upd_ne hb]; exact e, fun a z => by subst z; exact .inl ⟨_, h⟩, fun a z => by subst z; exact mD, fun _ z => .inl z⟩
  refine ⟨⟨Ms, r.moved mv (fun a ha z => nD (z ▸ ha)), nd, al⟩, fun a ha => ?_, s.src, fun b o e hb => ?_, s.pin, s.ln⟩
  · by_cases e : a = D
    · subst e; exact .inl ⟨_, L2.upd_same⟩
    · rcases s.ty a ha with ⟨_, z⟩ | ⟨_, _, _, z⟩ | ⟨_, z⟩
      · exact .inl ⟨_, by rw [L2.upd_ne e]; exact z⟩
      · exact .inr (.inl ⟨_, _, _, by rw [L2.upd_ne e]; exact z⟩)
      · exact .inr (.inr ⟨_, by rw [L2.upd_ne e]; exact z⟩)
  · have : b ≠ D := fun z => by
      subst z
      rcases s.src b mD with z | z
      · exact hb z
      · rw [z] at e; cases e
    rw [L2.upd_ne this]
    exact s.keep b o e hb
theorem blk_ok {N N2 : List Str} {sc sc2 scope : Scope} {own : List (Str × Nat)} (hN : N2 = N) (hs : sc2 = sc) (h : L2.blkC N sc scope own = true) : L2.BlkOk N2 sc2 scope own := by
  subst hN hs
  exact L2.blkOk_by h
theorem lc_imp {elt tg iter : Expr} {ifs : List Expr} {scope : Scope} {own : List (Str × Nat)} {pos : Pos} {it : IS} {g : GS} {t : BS} {f : ES} (hc : X.calm = true) (hN : X.N.Nodup) (hm : ∀ v ∈ own.map (·.2), c.mask[v]? ≠ some true) (hi : IJ X c W p tg iter it) (ok : L2.BlkOk X.N X.env.scope scope own)
    (hg : ∀ (s : Shared) (H : Hp) (C : Addr) (cl : List (Str × Addr)) (fp : List Addr), GW (X.blk s H scope (compEnvC scope cl C X.env) fp) c (own.map (·.2)) tg g) (ht : ∀ (s : Shared) (H : Hp) (C : Addr) (cl : List (Str × Addr)) (fp : List Addr), TJs (X.blk s H scope (compEnvC scope cl C X.env) fp) c W0 true ifs t)
    (he : ∀ (s : Shared) (H : Hp) (C : Addr) (cl : List (Str × Addr)) (fp : List Addr), EJ (X.blk s H scope (compEnvC scope cl C X.env) fp) c W0 true elt f) (hs : ∀ x, foldedSetIterable iter X.env x = pure x := by intro _; rfl) :
    Mono (compE (own.map (·.2)) it g t f) ∧ ∀ σ H Q, rdE c W p (compE (own.map (·.2)) it g t f) σ H Q → L2.tLc (rdI c W p it) (rdGW c (own.map (·.2)) g) (rdT c W0 true t) (rdE c W0 true f) (own.map (·.2)) σ H Q := by
  have mg := (hg X.s_0 X.H_0 0 [] []).mono
  have mt := (ht X.s_0 X.H_0 0 [] []).mono
  have mf := (he X.s_0 X.H_0 0 [] []).mono
  refine ⟨fun ρ K K' E E' hk hx h => hi.mono _ _ _ _ _ (fun ds ρ1 q => ⟨q.1, compD_mono mg mt mf _ _ _ _ (fun o => hk _ _) q.2⟩) hx h, ?_⟩
  rintro σ H Q ⟨ρ, M, T, s, k⟩
  refine ⟨ρ, M, T, s, hi.mono _ _ _ _ _ (fun ds ρ1 k J H1 M1 q1 jt D hD => ?_) (fun x ρ' k => k) k⟩
  obtain ⟨hlen, k⟩ := k
  generalize hvs : own.map (·.2) = vs at *
  have q0 := q1.own hD (o := .lst []) (.inl ⟨_, L2.upd_same⟩)
  have e0 : Ext H1 (upd H1 D (.lst [])) := Ext.new hD
  -- the loop's invariant
  refine ⟨fun i m H5 => ∃ (M5 : Addr → Prop) (vals : List V) (acc : List VS.D), m = ds.length - i ∧ i ≤ ds.length ∧ acc.length ≤ i ∧ SR c M5 (D :: T) (wipe σ vs) H5 (wipeR ρ1 vs) ∧ H5 D = some (.lst vals) ∧ Reps c.g c.Z M5 H5 vals acc ∧ (∀ b o, H1 b = some o → H5 b = some o) ∧ (∀ a, M5 a → M1 a ∨ H1 a = none) ∧
      compD vs g t f (wipeR ρ1 vs) (ds.drop i) acc (fun out => ∀ v H' M' as, Post c p σ M T H M' (as ++ T) H' (wipeR ρ1 vs) → VR c M' H' v (.m (.l out)) as → Q v H'), ⟨ds.length, _, [], [], by simp, Nat.zero_le _, Nat.le_refl _, q0.sr.wipe hm, L2.upd_same, .nil, e0, fun a ha => ?_, ?_⟩, ?_⟩
  · rcases ha with z | rfl
    · exact .inl z
    · exact .inr hD
  · rw [List.drop_zero]; exact k
  rintro i m H5 ⟨M5, vals, acc, rfl, hi', hacc, s5, hD5, r5, x5, n5, k5⟩
  have p5 : Post c false (wipe σ vs) M1 T H1 M5 T H5 (wipeR ρ1 vs) := ⟨SR.drop (as := [D]) s5, fun b o e _ => x5 b o e, n5, fun e => nomatch e⟩
  obtain ⟨it1, it2⟩ := jt _ M5 H5 _ p5 i
  cases e : ds[i]? with
  | none =>
    refine .inl ⟨it2 e, ?_⟩
    have hd : ds.drop i = [] := by rw [List.drop_eq_nil_iff]; exact List.getElem?_eq_none_iff.mp e
    rw [hd] at k5
    have pz : Post c true σ M1 T H1 M5 ([D] ++ T) H5 (wipeR ρ1 vs) := ⟨s5.unwipe hm, fun b o e _ => x5 b o e, n5, fun _ => x5⟩
    have pp := q1.trans pz fun _ z => z
    rw [Bool.and_true] at pp
    have hl : vals.length = acc.length := r5.length
    exact k5 (.ref D) H5 M5 [D] pp (.m (.l hD5 r5))
  | some d =>
    obtain ⟨go, yl⟩ := it1 d e
    obtain ⟨hlt, ed⟩ := List.getElem?_eq_some_iff.mp e
    have hd : ds.drop i = d :: ds.drop (i + 1) := by rw [List.drop_eq_getElem_cons hlt, ed]
    rw [hd] at k5
    refine .inr ⟨go, fun H6 => ∃ (M6 : Addr → Prop) (vals : List V) (acc : List VS.D), acc.length ≤ i + 1 ∧ SR c M6 (D :: T) (wipe σ vs) H6 (wipeR ρ1 vs) ∧ H6 D = some (.lst vals) ∧ Reps c.g c.Z M6 H6 vals acc ∧ (∀ b o, H1 b = some o → H6 b = some o) ∧ (∀ a, M6 a → M1 a ∨ H1 a = none) ∧
        compD vs g t f (wipeR ρ1 vs) (ds.drop (i + 1)) acc (fun out => ∀ v H' M' as, Post c p σ M T H M' (as ++ T) H' (wipeR ρ1 vs) → VR c M' H' v (.m (.l out)) as → Q v H'), fun H6 ⟨M6, vals6, acc6, h1, h2, h3, h4, h5, h6, h7⟩ => ⟨ds.length - (i + 1), by omega, M6, vals6, acc6, rfl, hlt, h1, h2, h3, h4, h5, h6, h7⟩, fun x H6 y => ?_⟩
    obtain ⟨x6, rx⟩ := yl x H6 y
    refine ⟨wipeR ρ1 vs, M5, D :: T, .v d, [], s5.ext x6, .v rx, mg _ _ _ _ (fun ρ7 k7 σ7 M7 s7 m7 w7 => ⟨w7.trans wipe_wipe, ρ7, M7, D :: T, s7, mt _ _ _ _ _ (fun b ρ8 k8 H8 M8 q8 => ?_) (fun _ _ z => z.elim) k7⟩) k5⟩
    have w7' : wipe σ7 vs = wipe σ vs := w7.trans wipe_wipe
    have x8 : Ext H6 H8 := q8.pu rfl
    have n8 : ∀ a, M8 a → M1 a ∨ H1 a = none := fun a ha => by
      rcases q8.new a ha with z | z
      · exact n5 a (m7 a z)
      · refine .inr ?_
        cases e : H1 a with
        | none => rfl
        | some o => rw [x6 _ _ (x5 _ _ e)] at z; cases z
    have n8' : ∀ a, M8 a → M5 a ∨ H5 a = none := fun a ha => by
      rcases q8.new a ha with z | z
      · exact .inl (m7 a z)
      · exact .inr (Ext.free x6 z)
    have k8 := k8
    show (if b = true then _ else _)
    split
    · rename_i hb
      rw [if_pos hb] at k8
      refine ⟨ρ8, M8, D :: T, q8.sr, mf _ _ _ _ _ (fun ev ρ9 k9 v H9 M9 as q9 r9 => ?_) (fun _ _ z => z.elim) k8⟩
      obtain ⟨kw, k9⟩ := k9
      split at k9
      · rename_i d9 e9
        obtain ⟨M10, q10, r10, sub, _⟩ := r9.evD q9 e9
        have x9 : Ext H8 H9 := q10.pu rfl
        have xx : Ext H5 H9 := (x6.trans x8).trans x9
        have hD9 : H9 D = some (.lst vals) := xx _ _ hD5
        have s10 := q10.sr.wipe hm
        rw [w7', kw] at s10
        have n10 : ∀ a, M10 a → M5 a ∨ H5 a = none := fun a ha => by
          rcases q10.new a ha with z | z
          · exact n8' a z
          · exact .inr (Ext.free (x6.trans x8) z)
        have mD : M10 D := by
          obtain ⟨_, _, _, al⟩ := q10.sr.slots
          exact al D (List.mem_append_right _ List.mem_cons_self)
        have mD5 : M5 D := by
          obtain ⟨_, _, _, al⟩ := s5.slots
          exact al D (List.mem_append_right _ List.mem_cons_self)
        have mv : Moved (fun a => a = D) M5 M10 H5 (upd H9 D (.lst (vals ++ [v]))) := ⟨fun b o e hb => by rw [L2.upd_ne hb]; exact xx _ _ e, fun a z => by subst z; exact .inl ⟨_, hD5⟩, fun a z => by subst z; exact mD5, n10⟩
        have mv2 : Moved (fun a => a = D) M10 M10 H9 (upd H9 D (.lst (vals ++ [v]))) := ⟨fun b o e hb => by rw [L2.upd_ne hb]; exact e, fun a z => by subst z; exact .inl ⟨_, hD9⟩, fun a z => by subst z; exact mD, fun _ z => .inl z⟩
        have hl : vals.length = acc.length := r5.length
        refine ⟨vals, hD9, lt_line (by omega), M10, vals ++ [v], acc ++ [d9], by simp; omega, s10.appT hD9, L2.upd_same, (r5.moved mv).append (.cons (r10.moved mv2) .nil), fun b o e => ?_, fun a ha => ?_, k9⟩
        · have : b ≠ D := fun z => by subst z; rw [hD] at e; cases e
          rw [L2.upd_ne this]
          exact xx _ _ (x5 _ _ e)
        · rcases n10 a ha with z | z
          · exact n5 a z
          · refine .inr ?_
            cases e : H1 a with
            | none => rfl
            | some o => rw [x5 _ _ e] at z; cases z
      · exact k9.elim
    · rename_i hb
      rw [if_neg hb] at k8
      obtain ⟨kw, k8⟩ := k8
      have s8 := q8.sr.wipe hm
      rw [w7', kw] at s8
      have mv : Moved (fun _ => False) M5 M8 H5 H8 := ⟨fun b o e _ => x8 _ _ (x6 _ _ e), fun _ z => z.elim, fun _ z => z.elim, n8'⟩
      exact ⟨M8, vals, acc, by omega, s8, x8 _ _ (x6 _ _ hD5), r5.moved mv, fun b o e => x8 _ _ (x6 _ _ (x5 _ _ e)), n8, k8⟩
theorem ej_lc {elt tg iter : Expr} {ifs : List Expr} {scope : Scope} {own : List (Str × Nat)} {pos : Pos} {it : IS} {g : GS} {t : BS} {f : ES} (hc : X.calm = true) (hN : X.N.Nodup) (hm : ∀ v ∈ own.map (·.2), c.mask[v]? ≠ some true) (hi : IJ X c W p tg iter it) (ok : L2.BlkOk X.N X.env.scope scope own)
    (hg : ∀ (s : Shared) (H : Hp) (C : Addr) (cl : List (Str × Addr)) (fp : List Addr), GW (X.blk s H scope (compEnvC scope cl C X.env) fp) c (own.map (·.2)) tg g) (ht : ∀ (s : Shared) (H : Hp) (C : Addr) (cl : List (Str × Addr)) (fp : List Addr), TJs (X.blk s H scope (compEnvC scope cl C X.env) fp) c W0 true ifs t)
    (he : ∀ (s : Shared) (H : Hp) (C : Addr) (cl : List (Str × Addr)) (fp : List Addr), EJ (X.blk s H scope (compEnvC scope cl C X.env) fp) c W0 true elt f) (hs : ∀ x, foldedSetIterable iter X.env x = pure x := by intro _; rfl) :
    EJ X c W p (.ListComp elt [⟨tg, iter, ifs, 0⟩] scope pos) (compE (own.map (·.2)) it g t f) :=
  have h := lc_imp (pos := pos) hc hN hm hi ok hg ht he hs
  ⟨h.1, PE.imp (L2.pe_lc hc hN hi.run ok (fun s H C cl fp => (hg s H C cl fp).run) (fun s H C cl fp => (ht s H C cl fp).run) (fun s H C cl fp => (he s H C cl fp).run) hs) h.2⟩
end
end VS
set_option Elab.async false
set_option linter.all false
set_option maxRecDepth 100000
set_option maxHeartbeats 4000000
/-! VS17: list(..), tuple(..). Own work. -/
namespace VS
open PySem PySem.Spec PyProof.Rows
open L2 (V Hp HO upd SqL SqT Rd Cx TE TT TA TS TG TGs VK XK WX PE PT PA PS PSs PG PGs OpR RelV CallR Sp FnOk atI)
section
variable {X : Cx} {c : Fr} {W : WX} {p p1 p2 : Bool} {M M' M2 : Addr → Prop} {T T' as as1 as2 : List Addr} {σ : L2.St} {H H' H2 : Hp} {ρ ρ' ρ2 : Rho}
def seqD (x : EV) : Option (List D) := match asL x with
  | some ds => some ds
  | none => asT x
def listC : CR := fun xs K _ ρ => match xs with
  | [x] => (match seqD x with
    | some ds => K (.m (.l ds)) ρ
    | none => False)
  | _ => False
theorem VR.seq {v : V} {x : EV} {ds : List D} (r : VR c M H v x as) (e : seqD x = some ds) : ∃ a vs, v = .ref a ∧ (SqL c.g.K H a vs ∨ SqT c.g.K H a vs) ∧ Reps c.g c.Z M H vs ds := by
  unfold seqD at e
  split at e
  · rename_i ds' e1
    cases e
    obtain ⟨a, vs, h1, h2, h3⟩ := r.list e1
    exact ⟨a, vs, h1, .inl h2, h3⟩
  · obtain ⟨a, vs, h1, h2, h3⟩ := r.tuple e
    exact ⟨a, vs, h1, .inr h2, h3⟩
/-- tuple(a list) -/
def tupC : CR := fun xs K _ ρ => match xs with
  | [x] => (match asL x with
    | some ds => K (.v (.tup ds)) ρ
    | none => (match asT x with
      | some ds => K (.v (.tup ds)) ρ
      | none => False))
  | _ => False
end
end VS
namespace VS
open PySem PySem.Spec PyProof.Rows
open L2 (V Hp HO Cx WX PE)
/-- a name that holds shared data, or an owned list to look at -/
def rE (i : Nat) : ES := fun ρ K _ => match ρ[i]? with
  | some (.v d) => K (.v d) ρ
  | some (.l ds) => K (.b ds) ρ
  | _ => False
theorem ej_r {X : Cx} {c : Fr} {W : WX} {i : Nat} {e : Expr} (h : PE X e (L2.tVar i)) : EJ X c W true e (rE i) := by
  refine ⟨fun ρ K K' E E' hk he q => ?_, PE.imp h ?_⟩
  · unfold rE at q ⊢
    split at q
    · exact hk _ _ q
    · exact hk _ _ q
    · exact q
  · rintro σ H Q ⟨ρ, M, T, s, k⟩
    unfold rE at k
    split at k
    · rename_i d e
      obtain ⟨v, as, h1, h2, _⟩ := s.read e (by simp)
      cases h2 with
      | v r => exact ⟨v, h1, k v H M [] (Post.same s) (.v r)⟩
    · rename_i d e
      obtain ⟨v, as, h1, h2, _⟩ := s.read e (by simp)
      cases h2 with
      | l e r => exact ⟨_, h1, k _ H M [] (Post.same s) (.b e r)⟩
    · exact k.elim
end VS
set_option Elab.async false
set_option linter.all false
set_option maxRecDepth 100000
set_option maxHeartbeats 4000000
/-! VS18: try, except. Own work. -/
namespace VS
open PySem PySem.Spec PyProof.Rows
open L2 (V Hp HO upd SqL SqT Rd Cx TE TT TA TS TG TGs VK XK WX PE PT PA PS PSs PG PGs OpR RelV CallR Sp FnOk atI)
/-! ### the frame of a suite: a run of its own from what is there -/
def maskAt (m : List Bool) (i : Nat) : List Bool := (m ++ List.replicate (i + 1 - m.length) false).set i true
theorem maskAt_self {m : List Bool} {i : Nat} : (maskAt m i)[i]? = some true := by
  unfold maskAt
  rw [List.getElem?_set_self]
  simp only [List.length_append, List.length_replicate]
  omega
open Classical in
/-- without what is owned -/
noncomputable def minus (M : Addr → Prop) (H : Hp) : Hp := fun b => if M b then none else H b
theorem minus_out {M : Addr → Prop} {H : Hp} {b : Addr} (h : ¬ M b) : minus M H b = H b := by
  unfold minus
  exact if_neg h
noncomputable def frX (c : Fr) (M : Addr → Prop) (H : Hp) (i : Nat) (a : Addr) (zm : ∀ x, c.Z x → ¬ M x ∧ H x ≠ none) : Fr where
  g := c.g
  Z := c.Z
  H0 := minus M H
  io := []
  zd := fun x z => by
    rw [minus_out (zm x z).1]
    exact (zm x z).2
  zi := fun _ h => absurd h (by simp)
  mask := maskAt c.mask i
  s0 := c.s0.set i (some (.ref a))
section
variable {X : Cx} {c : Fr} {W : WX} {p p1 p2 : Bool} {M M0 M1 M2 M' : Addr → Prop} {T T' as as1 as2 : List Addr} {σ σ2 : L2.St} {H H0 H1 H' H2 : Hp} {ρ ρ1 ρ' ρ2 : Rho} {i : Nat} {a : Addr}
theorem SR.zm (s : SR c M T σ H ρ) : ∀ x, c.Z x → ¬ M x ∧ H x ≠ none := fun x z => ⟨fun m => s.noZ m z, by
  cases e : c.H0 x with
  | none => exact absurd e (c.zd x z)
  | some o => rw [s.keep x o e fun q => c.zi x q z]; simp⟩
/-- what the suite knows of its exception -/
structure XIn (c : Fr) (M : Addr → Prop) (H : Hp) (i : Nat) (a : Addr) (cls : Value) (d : Option Addr) (x : Exc) : Prop where
  zm : ∀ x, c.Z x → ¬ M x ∧ H x ≠ none
  ty : ∀ b, M b → Typed H b
  rep : XRep c M H cls d x
  ln : i < c.s0.length
theorem XRg.moved {g : Ge} {Z ch : Addr → Prop} {cls : Value} {d : Option Addr} {x : Exc} (m : Moved ch M M' H H') (r : XRg g Z M H cls d x) : XRg g Z M' H' cls d x := by
  cases r with
  | no h => exact .no h
  | yes h e n w r =>
    refine .yes h (m.keep _ _ e fun z => ?_) n w (r.moved m)
    rcases m.ty _ z with ⟨_, q⟩ | ⟨_, _, _, q⟩ | ⟨_, q⟩ <;> (rw [e] at q; cases q)
theorem XIn.at_ {cls : Value} {d : Option Addr} {x : Exc} (h : XIn c M0 H0 i a cls d x) (s : SR (frX c M0 H0 i a h.zm) M T σ H ρ) : σ[i]? = some (some (.ref a)) := by
  rw [s.pin i maskAt_self]
  show (c.s0.set i (some (.ref a)))[i]? = _
  rw [List.getElem?_set_self h.ln]
/-! ### which classes a clause catches -/
def lookB (L : List (Str × Bool)) (cn : Str) : Option Bool := match L with
  | [] => none
  | p :: L => if p.1 = cn then some p.2 else lookB L cn
theorem lookB_mem : ∀ {L : List (Str × Bool)} {cn : Str} {b : Bool}, lookB L cn = some b → (cn, b) ∈ L
  | [], _, _, h => by cases h
  | p :: L, cn, b, h => by
    unfold lookB at h
    split at h
    · rename_i e
      cases h
      rw [← e]
      exact List.mem_cons_self
    · exact List.mem_cons_of_mem _ (lookB_mem h)
def tryAsS (L : List (Str × Bool)) (i : Nat) (f : SS) (g : Exc → SS) : SS := fun ρ k => f ρ { k with ex := fun x ρ' => match lookB L x.cn with
  | some true => i < ρ'.length ∧ g x (ρ'.set i .no) ⟨fun ρ2 => k.nx (ρ2.set i .no), fun ev ρ2 => k.rt ev (ρ2.set i .no), fun _ _ => False, fun ρ2 => k.bk (ρ2.set i .no), fun ρ2 => k.ct (ρ2.set i .no)⟩
  | some false => k.ex x ρ'
  | none => False }
/-- .. except y: without a name -/
def tryOnlyS (L : List (Str × Bool)) (f g : SS) : SS := fun ρ k => f ρ { k with ex := fun x ρ' => match lookB L x.cn with
  | some true => g ρ' { k with ex := fun _ _ => False }
  | some false => k.ex x ρ'
  | none => False }
end
end VS
set_option Elab.async false
set_option linter.all false
set_option maxRecDepth 100000
set_option maxHeartbeats 4000000
/-! VS19: what a suite asks of its exception. Own work. -/
namespace VS
open PySem PySem.Spec PyProof.Rows
open L2 (V Hp HO upd SqL SqT Rd Cx TE TT TA TS TG TGs VK XK WX PE PT PA PS PSs PG PGs OpR RelV CallR Sp FnOk atI)
section
variable {X : Cx} {c : Fr} {W : WX} {p p1 p2 : Bool} {M M0 M1 M2 M' : Addr → Prop} {T T' as as1 as2 : List Addr} {σ σ2 : L2.St} {H H0 H1 H' H2 : Hp} {ρ ρ1 ρ' ρ2 : Rho} {i : Nat} {a : Addr} {oe : Obj} {cls : Value} {d : Option Addr} {pn : List (Addr × Obj)} {x : Exc}
/-! e.f -/
def lookF : List Str → List D → Str → Option D
  | n :: ns, d :: ds, f => if n = f then some d else lookF ns ds f
  | _, _, _ => none
theorem lookF_rep {g : Ge} {Z : Addr → Prop} {f : Str} {d : D} : ∀ {ns : List Str} {ds : List D} {fs : List (Str × V)}, Reps g Z M H (fs.map (·.2)) ds → fs.map (·.1) = ns → lookF ns ds f = some d → ∃ v, fs.lookup f = some v ∧ Rep g Z M H v d
  | _, _, [], r, e, h => by
    subst e
    cases r
    cases h
  | _, _, (n, v) :: fs, r, e, h => by
    subst e
    cases r with
    | cons r rs =>
      rw [L2.lookup_put]
      have h' : (if n = f then some _ else lookF (fs.map (·.1)) _ f) = some d := h
      by_cases e : n = f
      · rw [if_pos e] at h'
        cases h'
        exact ⟨v, if_pos e.symm, r⟩
      · rw [if_neg e] at h'
        rw [if_neg fun z => e z.symm]
        exact lookF_rep rs rfl h'
/-- a class whose instances keep f -/
structure XFl (K : PySem.W.Frag) (mg : Str → Option Value) (cn f : Str) : Prop where
  ex : ∃ C, mg cn = some (.ref C) ∧ L2.XfC K C ∧ PySem.W.findIn K (.ref C) f = some none
def xfE (cn f : Str) (x : Exc) : ES := fun ρ K _ => x.cn = cn ∧ match lookF x.ns x.ds f with
  | some d => K (.v d) ρ
  | none => False
/-! isinstance(e, y), isinstance(e, (y, ..)) -/
def CVal (mg : Str → Option Value) (y : Str) (v : V) (cv : Value) : Prop := (∃ D, mg y = some (.ref D) ∧ v = .ref D ∧ cv = .ref D) ∨ (mg y = none ∧ ∃ n, bootBuiltins y = some (.type n) ∧ y ≠ "__name__" ∧ v = .ty n ∧ cv = .type n)
theorem CVal.inj {mg : Str → Option Value} {y : Str} {v v' : V} {cv cv' : Value} (h : CVal mg y v cv) (h' : CVal mg y v' cv') : v' = v ∧ cv' = cv := by
  rcases h with ⟨D, h1, rfl, rfl⟩ | ⟨h1, n, h2, _, rfl, rfl⟩
  · rcases h' with ⟨D', h1', rfl, rfl⟩ | ⟨h1', n', h2', _, rfl, rfl⟩
    · rw [h1] at h1'; cases h1'; exact ⟨rfl, rfl⟩
    · rw [h1] at h1'; cases h1'
  · rcases h' with ⟨D', h1', rfl, rfl⟩ | ⟨h1', n', h2', _, rfl, rfl⟩
    · rw [h1] at h1'; cases h1'
    · rw [h2] at h2'; cases h2'; exact ⟨rfl, rfl⟩
theorem CVal.rel {mg : Str → Option Value} {y : Str} {v : V} {cv : Value} (h : CVal mg y v cv) : RelV v cv ∧ ∀ u, RelV v u → u = cv := by
  rcases h with ⟨D, h1, rfl, rfl⟩ | ⟨h1, n, h2, _, rfl, rfl⟩
  · exact ⟨rfl, fun u r => r⟩
  · exact ⟨rfl, fun u r => r⟩
theorem CVal.pe {X : Cx} {y : Str} {v : V} {cv : Value} {pos : Pos} (h : CVal X.mg y v cv) (hg : L2.Gl X y) (hd : (y == ("__debug__" : Str)) = false) : PE X (.Name y pos) (L2.tC v) := by
  have r := h.rel.1
  rcases h with ⟨D, h1, rfl, rfl⟩ | ⟨h1, n, h2, hn, rfl, rfl⟩
  · exact L2.pe_glob hg h1 r hd
  · exact L2.pe_bltn hg h1 h2 r hn hd
structure KN (K : PySem.W.Frag) (mg : Str → Option Value) (cn y : Str) (b : Bool) : Prop where
  ex : ∃ C v cv, mg cn = some (.ref C) ∧ L2.ExcC K C ∧ CVal mg y v cv ∧ PySem.W.kitOne K (.ref C) cv = some b
inductive CVals (mg : Str → Option Value) : List Str → List V → List Value → Prop
  | nil : CVals mg [] [] []
  | cons {y : Str} {v : V} {cv : Value} {ys : List Str} {vs : List V} {cvs : List Value} : CVal mg y v cv → CVals mg ys vs cvs → CVals mg (y :: ys) (v :: vs) (cv :: cvs)
theorem CVals.inj {mg : Str → Option Value} : ∀ {ys : List Str} {vs vs' : List V} {cvs cvs' : List Value}, CVals mg ys vs cvs → CVals mg ys vs' cvs' → vs' = vs ∧ cvs' = cvs
  | [], _, _, _, _, .nil, .nil => ⟨rfl, rfl⟩
  | _ :: _, _, _, _, _, .cons h hs, .cons k ks => by
    obtain ⟨rfl, rfl⟩ := h.inj k
    obtain ⟨rfl, rfl⟩ := hs.inj ks
    exact ⟨rfl, rfl⟩
theorem CVals.len {mg : Str → Option Value} : ∀ {ys : List Str} {vs : List V} {cvs : List Value}, CVals mg ys vs cvs → vs.length = ys.length
  | _, _, _, .nil => rfl
  | _, _, _, .cons _ hs => by rw [List.length_cons, List.length_cons, hs.len]
theorem kitx_of_exc {K : PySem.W.Frag} {C : Addr} {ox : Obj} {od : Option Obj} (E : L2.ExcC K C) : PySem.W.KitX K (.ref a) (.ref C) (fun h => PySem.W.InstAt h a ox C od) :=
  PySem.W.kitx_exc (by obtain ⟨cd, hc, _⟩ := PySem.W.any_some E.hd; rw [hc]; rfl) E.hg E.hk E.hs E.ha E.hn E.ht E.hm
def kinE (L : List (Str × Bool)) (x : Exc) : ES := fun ρ K _ => match lookB L x.cn with
  | some b => K (.v (.bl b)) ρ
  | none => False
theorem XRg.xd {g : Ge} {Z : Addr → Prop} (r : XRg g Z M H cls d x) : ∀ dd, d = some dd → ∃ fs, H dd = some (.xd fs) := fun dd e => by
  cases r with
  | no _ => cases e
  | yes _ h _ _ _ => cases e; exact ⟨_, h⟩
/-! what grows with its ends -/
end
end VS
set_option Elab.async false
set_option linter.all false
set_option maxRecDepth 100000
set_option maxHeartbeats 4000000
/-! VS20: what is never reached; what is frozen on its way; is True; all. Own work. -/
namespace VS
open PySem PySem.Spec PyProof.Rows
open L2 (V Hp HO upd SqL SqT Rd Cx TE TT TA TS TG TGs VK XK WX PE PT PA PS PSs PG PGs OpR RelV CallR Sp FnOk atI)
section
variable {X : Cx} {c : Fr} {W : WX} {p p1 p2 : Bool} {M M' M2 : Addr → Prop} {T T' as as1 as2 : List Addr} {σ : L2.St} {H H' H2 : Hp} {ρ ρ' ρ2 : Rho}
/-- owned by nobody from here on, changed by nobody -/
def frzE (f : ES) : ES := fun ρ K E => f ρ (fun x ρ' => match x with
  | .m s => (match frSl s with
    | some d => K (.v d) ρ'
    | none => False)
  | .v d => K (.v d) ρ'
  | _ => False) E
/-! is True, is False -/
def isTB : EV → Option Bool
  | .v (.bl b) => some b
  | .m (.v (.bl b)) => some b
  | _ => none
def isTR : BR := fun x y K _ ρ => match y with
  | .v (.bl b) => K (.v (.bl (isTB x == some b))) ρ
  | _ => False
/-! all of a list of bools -/
def blsD : List D → Option (List Bool)
  | [] => some []
  | .bl b :: ds => (blsD ds).map (b :: ·)
  | _ :: _ => none
def allC : CR := fun xs K _ ρ => match xs with
  | [x] => (match (asL x).bind blsD with
    | some bs => K (.v (.bl (bs.all id))) ρ
    | none => False)
  | _ => False
end
end VS
set_option Elab.async false
set_option linter.all false
set_option maxRecDepth 100000
set_option maxHeartbeats 4000000
/-! VS14: how a def's semantics is computed: simp set; promises. Own work. -/
namespace VS
open PySem PySem.Spec PyProof.Rows
open L2 (V Hp Cx WX)
theorem at0 {α : Type} {x : α} {xs : List α} : L2.atI (x :: xs) 0 = some x := by simp [L2.atI, L2.ixN]; try (rw [if_pos (by omega)]; rfl)
theorem at1 {α : Type} {x y : α} {xs : List α} : L2.atI (x :: y :: xs) 1 = some y := by simp [L2.atI, L2.ixN]; try (rw [if_pos (by omega)]; rfl)
theorem at2 {α : Type} {x y z : α} {xs : List α} : L2.atI (x :: y :: z :: xs) 2 = some z := by simp [L2.atI, L2.ixN]; try (rw [if_pos (by omega)]; rfl)
theorem at3 {α : Type} {x y z u : α} {xs : List α} : L2.atI (x :: y :: z :: u :: xs) 3 = some u := by simp [L2.atI, L2.ixN]; try (rw [if_pos (by omega)]; rfl)
/-! eqD by its cases alone: unfolded at a symbol the kernel refuses it -/
theorem eqD_nn : eqD .non .non = true := by simp [eqD]
theorem eqD_bb {a b : Bool} : eqD (.bl a) (.bl b) = (a == b) := by simp [eqD]
theorem eqD_ii {i j : Int} : eqD (.int i) (.int j) = (i == j) := by simp [eqD]
theorem eqD_ss {a b : Str} : eqD (.str a) (.str b) = (a == b) := by simp [eqD]
theorem eqD_tt {a b : List D} : eqD (.tup a) (.tup b) = eqDs a b := by simp [eqD]
theorem eqD_ll {s t : Bool} {a b : List D} : eqD (.lst s a) (.lst t b) = eqDs a b := by simp [eqD]
theorem eqD_bi {b : Bool} {i : Int} : eqD (.bl b) (.int i) = ((if b then 1 else 0) == i) := by simp [eqD]
theorem eqD_ib {b : Bool} {i : Int} : eqD (.int i) (.bl b) = (i == (if b then 1 else 0)) := by simp [eqD]
theorem eqD_nt {a : List D} : eqD .non (.tup a) = false := by simp [eqD]
theorem eqD_tn {a : List D} : eqD (.tup a) .non = false := by simp [eqD]
theorem eqD_it {i : Int} {a : List D} : eqD (.int i) (.tup a) = false := by simp [eqD]
theorem eqD_ti {i : Int} {a : List D} : eqD (.tup a) (.int i) = false := by simp [eqD]
theorem eqD_ni {i : Int} : eqD .non (.int i) = false := by simp [eqD]
theorem eqD_in {i : Int} : eqD (.int i) .non = false := by simp [eqD]
theorem eqDs_nn : eqDs [] [] = true := by simp [eqDs]
theorem eqDs_cc {a b : D} {as bs : List D} : eqDs (a :: as) (b :: bs) = (eqD a b && eqDs as bs) := by simp [eqDs]
theorem eqDs_nc {b : D} {bs : List D} : eqDs [] (b :: bs) = false := by simp [eqDs]
theorem eqDs_cn {b : D} {bs : List D} : eqDs (b :: bs) [] = false := by simp [eqDs]
end VS
set_option Elab.async false
set_option linter.all false
set_option maxRecDepth 100000
set_option maxHeartbeats 4000000
/-! VS15: the end of a law. Own work. -/
namespace VS
open PySem PySem.Spec PyProof.Rows
open L2 (V Hp HO upd SqL SqT Rd Cx Sp FnOk)
/-- the script, ints of at most 2 ^ 20 bits -/
def F_law : FS := fun ss K _ => match ss with
  | [.v (.lst true ds)] => (∃ ns : List Int, ds = ns.map .int ∧ ns.length ≤ 63 ∧ ∀ n ∈ ns, Builtin.Int.intBits n ≤ 1048576) ∧ K (.v (.bl true)) []
  | _ => False
theorem m_law : MonoF F_law := fun ss K K' E E' hk he h => by
  unfold F_law at h ⊢
  grind
theorem reps_ints {g : Ge} {Z M : Addr → Prop} {H : Hp} : ∀ {ns : List Int}, Reps g Z M H (ns.map V.int) (ns.map .int)
  | [] => .nil
  | _ :: _ => .cons (.int _) reps_ints
theorem sp_law {g : Ge} {H : Hp} {a : Addr} {ns : List Int} (hl : ns.length ≤ 63) (hb : ∀ n ∈ ns, Builtin.Int.intBits n ≤ 1048576) (hS : SqL g.K H a (ns.map V.int)) : spV g [false] F_law [.ref a] H (fun v _ => v = .bl true) fun _ _ _ => False := by
  refine ⟨fun _ => False, [.v (.lst true (ns.map .int))], [], fun _ h => h.elim, fun _ h => absurd h (by simp), ?_, .nil, rfl, ⟨ns, rfl, hl, hb⟩, fun v H' ras ias cp rv re => ?_⟩
  · refine .cons (as := []) (bs := []) (.v (.lst ?_ reps_ints)) .nil
    rcases hS with (h | h) | h
    · exact .inl ⟨h, fun z => absurd z (by simp), fun _ z => z⟩
    · exact .inr (.inl h)
    · exact .inr (.inr h)
  · cases rv with
    | v r => cases r; rfl
theorem law_end {l : PySem.W.OpenLaw} {w : World} {K : PySem.W.Frag} {mg : Str → Option Value} {fa : Addr} {h : Heap} {k : Nat} {x : Str} {qual : Str} {st : Stmt} {f : Addr} {fd : FuncData} {dvs : List V} {kws : List (Str × V)} (hfa : mg "law" = some (.ref fa)) (h1 : mg "law" = some (.ref f)) (F : L2.FunD K "law" qual (L2.defArgs st) (L2.defBody st) (L2.defScope st) dvs kws f fd) (hb : ∀ (s : Shared) (u : Value), BindsTo s fd ⟨[u], []⟩ [(x, u)])
    (D : ∀ base : Heap, K.In base → base.Ns mainGlobals mg → Def l.prog w K mg base k "law" [x] [false] F_law) : LamX.LawAtS l w K (L2.CX l.prog w) k 63 x mg fa h := by
  have e : f = fa := by rw [hfa] at h1; cases h1; rfl
  subst e
  refine ⟨fd, [], spV ⟨K, mg⟩ [false] F_law, fun _ h => absurd h (by simp), fun _ h => absurd h (by simp), fun _ h => absurd h (by simp), hb, fun H a ns hl hbits _ hS => sp_law hl hbits hS, fun base kb nb _ => ?_⟩
  obtain ⟨f', fd', G, g1, g2, g3, oc, od, osl, lk⟩ := (D base kb nb).ex
  have e : f' = f := by rw [hfa] at g1; cases g1; rfl
  subst e
  have e2 : fd' = fd := by
    obtain ⟨oc2, od2, dV, kV, doc, pm, an, cdv, ct, osl2, hfd, lk2, _⟩ := F.ex
    rw [lk] at lk2
    cases lk2
    rfl
  subst e2
  exact G
theorem cx_end {P : Program} {w : World} {H : Hp} {s : Shared} {e : Value} {s' : Shared} (h : L2.CX P w [] H s (fun _ _ _ => False) e s') : False := by
  obtain ⟨_, _, _, _, _, _, _, _, _, _, _, _, z⟩ := h
  exact z
/-! ### facts and constants of the module -/
mutual
def gdB (K : PySem.W.Frag) : D → Value → Bool
  | .non, .none => true
  | .bl b, .bool c => b == c
  | .int i, .int j _ => decide (j = i)
  | .str s, .str z _ => decide (z = s)
  | .tup ds, .ref a => (match K.lookup a with
    | some ⟨.type c, _, .seq its _, _⟩ => decide (c = "tuple") && (decide (its.size ≤ sizeLine) && gdBs K ds its.toList)
    | _ => false)
  | _, _ => false
def gdBs (K : PySem.W.Frag) : List D → List Value → Bool
  | [], [] => true
  | d :: ds, u :: us => gdB K d u && gdBs K ds us
  | _, _ => false
end
def gdG (K : PySem.W.Frag) (p : Str × D) : Bool := match PySem.W.nsIn K mainGlobals p.1 with
  | some (some u) => gdB K p.2 u
  | _ => false
def SaysC' (fa : List He.Fa) (fn : List He.DefD) (gs : List (Str × D)) (K : PySem.W.Frag) : Prop := He.SaysD fa fn K ∧ gs.all (gdG K) = true
/-- the script's ints are small enough -/
theorem bits_si {n : Int} {m : Nat} (h : Builtin.Int.intBits n ≤ m) : n.natAbs < 2 ^ m := by
  unfold Builtin.Int.intBits at h
  by_cases e : n.natAbs = 0
  · rw [e]; exact Nat.two_pow_pos _
  · have hz : (n == 0) = false := by simp; omega
    rw [hz] at h
    exact (Nat.log2_lt e).mp (by simp at h; omega)
end VS
set_option Elab.async false
set_option linter.all false
set_option maxRecDepth 100000
set_option maxHeartbeats 4000000
/-! VS21: facts of the module for suites. Own work. -/
namespace VS
open PySem PySem.Spec PyProof.Rows
open L2 (V Hp HO upd SqL SqT Rd Cx Sp FnOk)
theorem fm0 {α : Type} {P : α → Prop} : ∀ p ∈ ([] : List α), P p := fun _ h => absurd h (by simp)
theorem fm1 {α : Type} {P : α → Prop} {a : α} {l : List α} (h : P a) (hs : ∀ p ∈ l, P p) : ∀ p ∈ a :: l, P p := fun p hp => by
  rcases List.mem_cons.mp hp with rfl | z
  · exact h
  · exact hs p z
/-- facts: which class is of which; what a class of errors has -/
inductive Xa where
  | own (cn y : Str) (b : Bool)
  | blt (cn y : Str) (n : String) (b : Bool)
  | exc (cn : Str)
  | xf (cn f : Str)
def Xa.ok (K : PySem.W.Frag) : Xa → Bool
  | .own cn y b => decide (PySem.W.kitOne K (.ref (He.ga K cn)) (.ref (He.ga K y)) = some b)
  | .blt cn y n b => decide (bootBuiltins y = some (.type n)) && (decide (y ≠ "__name__") && decide (PySem.W.kitOne K (.ref (He.ga K cn)) (.type n) = some b))
  | .exc cn => decide (PySem.W.findIn K (.ref (He.ga K cn)) "__getattribute__" = some (some (.builtin "BaseException.__getattribute__"))) && (decide (PySem.W.findIn K (.ref (He.ga K cn)) "__getattr__" = some none) && (decide (PySem.W.subIn K (.ref (He.ga K cn)) (.type "BaseException") = some true) && (PySem.W.hasDictIn K (He.ga K cn) && (decide (PySem.W.findIn K (.ref (He.ga K cn)) "__class__" = some (some (.builtin "object.__class__"))) && (decide (PySem.W.specialIn K (.builtin "object.__class__") "__get__" = some (some (.builtin "getset_descriptor.__get__"))) && (decide (PySem.W.takesIn K (.builtin "object.__class__") = some true) && decide (PySem.W.mroIn K (He.ga K cn) (.type "object") = some true)))))))
  | .xf cn f => decide (PySem.W.findIn K (.ref (He.ga K cn)) f = some none)
theorem Xa.exc_ok {K : PySem.W.Frag} {cn : Str} (h : Xa.ok K (.exc cn) = true) : L2.ExcC K (He.ga K cn) := by
  unfold Xa.ok at h
  simp only [Bool.and_eq_true, decide_eq_true_eq] at h
  obtain ⟨h1, h2, h3, h4, h5, h6, h7, h8⟩ := h
  exact ⟨h1, h2, h3, h4, h5, h6, h7, h8⟩
section
variable {K : PySem.W.Frag} {mg : Str → Option Value}
theorem kn_own {cn y : Str} {b : Bool} (gC : mg cn = some (.ref (He.ga K cn))) (gY : mg y = some (.ref (He.ga K y))) (hx : Xa.ok K (.exc cn) = true) (h : Xa.ok K (.own cn y b) = true) : KN K mg cn y b :=
  ⟨_, _, _, gC, Xa.exc_ok hx, .inl ⟨_, gY, rfl, rfl⟩, of_decide_eq_true h⟩
theorem kn_blt {cn y : Str} {n : String} {b : Bool} (gC : mg cn = some (.ref (He.ga K cn))) (gY : mg y = none) (hx : Xa.ok K (.exc cn) = true) (h : Xa.ok K (.blt cn y n b) = true) : KN K mg cn y b := by
  unfold Xa.ok at h
  simp only [Bool.and_eq_true, decide_eq_true_eq] at h
  obtain ⟨h1, h2, h3⟩ := h
  exact ⟨_, _, _, gC, Xa.exc_ok hx, .inr ⟨gY, n, h1, h2, rfl, rfl⟩, h3⟩
theorem xfl_of {cn f : Str} (gC : mg cn = some (.ref (He.ga K cn))) (hx : Xa.ok K (.exc cn) = true) (h : Xa.ok K (.xf cn f) = true) : XFl K mg cn f := by
  have e := Xa.exc_ok hx
  exact ⟨_, gC, ⟨e.hg, e.hk, e.hs, e.hd⟩, of_decide_eq_true h⟩
end
abbrev AlX : Type := He.AlD × (Bool × Bool)
def SaysX' (fa : List He.Fa) (fn : List He.DefD) (gs : List (Str × D)) (xa : List Xa) (K : PySem.W.Frag) : Prop := SaysC' fa fn gs K ∧ xa.all (Xa.ok K) = true
theorem SaysX'.at_ {fa : List He.Fa} {fn : List He.DefD} {gs : List (Str × D)} {xa : List Xa} {K : PySem.W.Frag} (c : SaysX' fa fn gs xa K) (i : Nat) {x : Xa} (h : xa[i]? = some x) : Xa.ok K x = true := List.all_eq_true.mp c.2 x (List.mem_of_getElem? h)
end VS
set_option Elab.async false
set_option linter.all false
set_option maxRecDepth 100000
set_option maxHeartbeats 4000000
/-! VS22: a, b = a tuple or a list. Own work. -/
namespace VS
open PySem PySem.Spec PyProof.Rows
open L2 (V Hp HO upd SqL SqT Rd Cx TE TT TA TS TG TGs VK XK WX PE PT PA PS PSs PG PGs OpR RelV CallR Sp FnOk atI)
section
variable {X : Cx} {c : Fr} {W : WX} {p p1 p2 : Bool} {M M' M2 : Addr → Prop} {T T' as as1 as2 : List Addr} {σ : L2.St} {H H' H2 : Hp} {ρ ρ' ρ2 : Rho}
def gU (n : Nat) (g : GSs) : GS := fun s ρ K => match s with
  | .v (.lst _ ds) => ds.length = n ∧ g (ds.map .v) ρ K
  | .l ds => ds.length = n ∧ g (ds.map .v) ρ K
  | s => gT n g s ρ K
end
/-! sizes of a fraction's parts -/
end VS
set_option Elab.async false
set_option linter.all false
set_option maxRecDepth 100000
set_option maxHeartbeats 4000000
/-! VS23: raise of a class whose __init__ keeps fields. Own work. -/
namespace VS
open PySem PySem.Spec PyProof.Rows
open L2 (V Hp HO upd SqL SqT Rd Cx TE TT TA TS TG TGs VK XK WX PE PT PA PS PSs PG PGs OpR RelV CallR Sp FnOk atI)
/-- a method's text: the j-th of the class that stands at a place -/
def methS (c : Stmt) (j : Nat) : Stmt := match c with
  | .ClassDef _ _ _ b _ _ _ _ _ _ p => b.getD j (.Pass p)
  | s => s
/-- the base class whose __init__ is ValueError's -/
structure KBase (K : PySem.W.Frag) (mg : Str → Option Value) (y : Str) : Prop where
  ex : ∃ D, mg y = some (.ref D) ∧ PySem.W.readsIn K D (.type "type") = true ∧ PySem.W.specialIn K (.ref D) "__getattribute__" = some (some (.builtin "type.__getattribute__")) ∧ PySem.W.findCls K (.ref D) (.type "type") "__init__" = some (.val (.builtin "ValueError.__init__"))
theorem pe_kinit {X : Cx} {y : Str} {q1 q2 pos : Pos} {e : Expr} {es : List Expr} {ta : TA} {pl : Sem Bool} (kb : KBase X.K X.mg y) (hy : L2.Gl X y) (ha : PA X (e :: es) ta)
    (hcall : eval (.Call (.Attribute (.Name y q1) "__init__" q2) (e :: es) [] pos) X.env = (do
      let r ← eval (.Name y q1) X.env
      standAt q2.atName
      let (g, pre) ← holding [r] (getMethod r "__init__" pl)
      callWith pos g pre (backTo pos (starEach (e :: es) X.env)) (backToKw pos (keywordEach [] X.env))) := by rfl)
    (hst : starEach (e :: es) X.env = (false, eval e X.env) :: starEach es X.env := by rfl) (hno : (backTo pos (starEach es X.env)).any (·.1) = false := by rfl) (hdb : (y == ("__debug__" : Str)) = false := by decide) :
    PE X (.Call (.Attribute (.Name y q1) "__init__" q2) (e :: es) [] pos) (L2.tVeI X.K ta) := by
  obtain ⟨D, gD, rd, ga, fc⟩ := kb.ex
  constructor
  intro pins s σ H Q I h
  apply PySem.W.methodCall_KW (L2.ld_glob I hy gD ?_ hdb) hcall
  apply PySem.W.method_cls I.kIn ga
  apply PySem.W.cls_value I.kIn rd fc rfl
  have I0 := I.tok (s.toks + 1)
  show wpAny _ _ (callWith pos (Value.builtin "ValueError.__init__") [] _ []) _ _ _
  apply PyProof.Rows.callWith_method1 ?_ hst hno
  apply L2.thn (ha.run pos pins _ σ H _ I0 h)
  rintro us s1 ⟨vs, H1, I1, r1, a, C, ws, ev, hl, T, ea, q⟩
  subst ev
  cases r1 with
  | cons ra rw' =>
    cases ra
    have hlen : ws.length = _ := Paired.length rw'
    exact L2.oinit_ok T I1 ea (by rw [← hlen, sizeLine_eq]; omega) fun s' J => ⟨.non, H1, J, rfl, q⟩
/-- what an __init__ does that keeps fl -/
def iniSp (C : Addr) (fl : List Str) : Sp := fun vs H Q _ => ∃ a ys, vs = V.ref a :: ys ∧ ys.length = fl.length ∧ H a = some (L2.exo a C none) ∧ ∀ dx, H dx = none → dx ≠ a → Q .non (upd (upd H dx (L2.exd dx (fl.zip ys).reverse)) a (L2.exo a C (some dx)))
/-- a class of errors that keeps fl -/
structure XIni (P : Program) (w : World) (K : PySem.W.Frag) (mg : Str → Option Value) (base : Heap) (k : Nat) (cn : Str) (fl : List Str) : Prop where
  ex : ∃ C fI fd ps, mg cn = some (.ref C) ∧ L2.OexC K C ∧ PySem.W.findIn K (.ref C) "__init__" = some (some (.ref fI)) ∧ PySem.W.typeIn K (.ref fI) = some (.type "function") ∧ FnOk P w K mg base (L2.CX P w) k fI fd ps (iniSp C fl) ∧ L2.Binds K fd ps []
def raiseIS (cn : Str) (fl : List Str) (g : AS) : SS := fun ρ k => g ρ (fun xs ρ' => match allV xs with
  | some ds => (ds.length = fl.length ∧ ds.length ≤ 100) ∧ k.ex ⟨cn, fl.reverse, ds.reverse⟩ ρ'
  | none => False) k.ex
section
variable {X : Cx} {c : Fr} {W : WX} {p : Bool}
theorem Reps.rev {g : Ge} {Z M : Addr → Prop} {H : Hp} : ∀ {vs : List V} {ds : List D}, Reps g Z M H vs ds → Reps g Z M H vs.reverse ds.reverse
  | _, _, .nil => .nil
  | _, _, .cons r rs => by
    rw [List.reverse_cons, List.reverse_cons]
    exact rs.rev.append (.cons r .nil)
theorem zip_fst : ∀ {fl : List Str} {vs : List V}, vs.length = fl.length → (fl.zip vs).map (·.1) = fl
  | [], [], _ => rfl
  | [], _ :: _, h => by simp at h
  | _ :: _, [], h => by simp at h
  | f :: fl, v :: vs, h => by rw [List.zip_cons_cons, List.map_cons, zip_fst (by simpa using h)]
theorem zip_snd : ∀ {fl : List Str} {vs : List V}, vs.length = fl.length → (fl.zip vs).map (·.2) = vs
  | [], [], _ => rfl
  | [], _ :: _, h => by simp at h
  | _ :: _, [], h => by simp at h
  | f :: fl, v :: vs, h => by rw [List.zip_cons_cons, List.map_cons, zip_snd (by simpa using h)]
end
end VS
set_option Elab.async false
set_option linter.all false
set_option maxRecDepth 100000
set_option maxHeartbeats 4000000
/-! VS24: an __init__ that keeps one, two or three fields; facts of such classes. Own work. -/
namespace VS
open PySem PySem.Spec PyProof.Rows
open L2 (V Hp HO upd SqL SqT Rd Cx TE TT TA TS TG TGs VK XK WX PE PT PA PS PSs PG PGs OpR RelV CallR Sp FnOk atI)
abbrev tIni0 (K : PySem.W.Frag) (m : Str) : TS := L2.tDrop (L2.tVeI K (L2.tCons (L2.tVar 0) (L2.tCons (L2.tC (.str m)) L2.tNil)))
abbrev tIni1 (K : PySem.W.Frag) (m f1 : Str) : TS := L2.tSeq (tIni0 K m) (L2.tOst K f1 (L2.tVar 0) (L2.tVar 1))
abbrev tIni2 (K : PySem.W.Frag) (m f1 f2 : Str) : TS := L2.tSeq (tIni0 K m) (L2.tSeq (L2.tOst K f1 (L2.tVar 0) (L2.tVar 1)) (L2.tOst K f2 (L2.tVar 0) (L2.tVar 2)))
abbrev tIni3 (K : PySem.W.Frag) (m f1 f2 f3 : Str) : TS := L2.tSeq (tIni0 K m) (L2.tSeq (L2.tOst K f1 (L2.tVar 0) (L2.tVar 1)) (L2.tSeq (L2.tOst K f2 (L2.tVar 0) (L2.tVar 2)) (L2.tOst K f3 (L2.tVar 0) (L2.tVar 3))))
theorem exH {H : Hp} {a dx C : Addr} {fs fs' : List (Str × V)} (ne : dx ≠ a) : upd (upd (upd H dx (L2.exd dx fs)) a (L2.exo a C (some dx))) dx (L2.exd dx fs') = upd (upd H dx (L2.exd dx fs')) a (L2.exo a C (some dx)) := by
  funext b
  by_cases hb : b = dx
  · rw [hb, L2.upd_same, L2.upd_ne ne, L2.upd_same]
  · rw [L2.upd_ne hb]
    by_cases hba : b = a
    · rw [hba, L2.upd_same, L2.upd_same]
    · rw [L2.upd_ne hba, L2.upd_ne hb, L2.upd_ne hba, L2.upd_ne hb]
theorem exH_d {H : Hp} {a dx C : Addr} {fs : List (Str × V)} (ne : dx ≠ a) : upd (upd H dx (L2.exd dx fs)) a (L2.exo a C (some dx)) dx = some (L2.exd dx fs) := by rw [L2.upd_ne ne, L2.upd_same]
section
variable {P : Program} {w : World} {K : PySem.W.Frag} {mg : Str → Option Value} {base : Heap} {cn qual m f1 f2 f3 p1 p2 p3 : Str} {st : Stmt} {C fI : Addr} {fd : FuncData} {kws : List (Str × V)} {dvs : List V}
theorem xini1 (gC : mg cn = some (.ref C)) (T : L2.OexC K C) (iC : PySem.W.findIn K (.ref C) "__init__" = some (some (.ref fI))) (tI : PySem.W.typeIn K (.ref fI) = some (.type "function"))
    (F : L2.FunD K "__init__" qual (L2.defArgs st) (L2.defBody st) (L2.defScope st) dvs kws fI fd) (hbd : L2.Binds K fd ["self", p1] []) (S : L2.FnScope ["self", p1] ["self", p1] (L2.defScope st)) (n1 : PySem.W.findIn K (.ref C) f1 = some none)
    (hb : ∀ (cdv : Value) (A : Around) (outer : List Env) (s : Shared) (H : Hp) (E : XK), PSs (L2.cxOf (L2.CX P w) P w K mg base ["self", p1] qual (L2.defScope st) fI cdv A outer s H E) (L2.defBody st) (tIni1 K m f1)) : XIni P w K mg base 1 cn [f1] := by
  refine ⟨C, fI, fd, ["self", p1], gC, T, iC, tI, F.ok (CX := L2.CX P w) S (fun vs H Q E ⟨a, ys, e, l, _⟩ => by rw [e, List.length_cons, l]; rfl) fun cdv A outer s H vs Q E hr hsp => ⟨_, hb cdv A outer s H E, ?_⟩, hbd⟩
  obtain ⟨a, ys, rfl, hl, ea, go⟩ := hsp
  match ys, hl with
  | [y1], _ => exact ⟨.ref a, rfl, a, C, [.str m], rfl, by simp, T, ea, y1, rfl, .ref a, rfl, a, C, rfl, T, n1, .inl ⟨ea, fun dx hd ne => go dx hd ne⟩⟩
theorem xini2 (gC : mg cn = some (.ref C)) (T : L2.OexC K C) (iC : PySem.W.findIn K (.ref C) "__init__" = some (some (.ref fI))) (tI : PySem.W.typeIn K (.ref fI) = some (.type "function"))
    (F : L2.FunD K "__init__" qual (L2.defArgs st) (L2.defBody st) (L2.defScope st) dvs kws fI fd) (hbd : L2.Binds K fd ["self", p1, p2] []) (S : L2.FnScope ["self", p1, p2] ["self", p1, p2] (L2.defScope st)) (n1 : PySem.W.findIn K (.ref C) f1 = some none) (n2 : PySem.W.findIn K (.ref C) f2 = some none)
    (hb : ∀ (cdv : Value) (A : Around) (outer : List Env) (s : Shared) (H : Hp) (E : XK), PSs (L2.cxOf (L2.CX P w) P w K mg base ["self", p1, p2] qual (L2.defScope st) fI cdv A outer s H E) (L2.defBody st) (tIni2 K m f1 f2)) : XIni P w K mg base 1 cn [f1, f2] := by
  refine ⟨C, fI, fd, ["self", p1, p2], gC, T, iC, tI, F.ok (CX := L2.CX P w) S (fun vs H Q E ⟨a, ys, e, l, _⟩ => by rw [e, List.length_cons, l]; rfl) fun cdv A outer s H vs Q E hr hsp => ⟨_, hb cdv A outer s H E, ?_⟩, hbd⟩
  obtain ⟨a, ys, rfl, hl, ea, go⟩ := hsp
  match ys, hl with
  | [y1, y2], _ =>
    refine ⟨.ref a, rfl, a, C, [.str m], rfl, by simp, T, ea, y1, rfl, .ref a, rfl, a, C, rfl, T, n1, .inl ⟨ea, fun dx hd ne => ?_⟩⟩
    refine ⟨y2, rfl, .ref a, rfl, a, C, rfl, T, n2, .inr ⟨dx, [(f1, y1)], L2.upd_same, exH_d ne, by simp, ?_⟩⟩
    rw [exH ne]
    exact go dx hd ne
theorem xini3 (gC : mg cn = some (.ref C)) (T : L2.OexC K C) (iC : PySem.W.findIn K (.ref C) "__init__" = some (some (.ref fI))) (tI : PySem.W.typeIn K (.ref fI) = some (.type "function"))
    (F : L2.FunD K "__init__" qual (L2.defArgs st) (L2.defBody st) (L2.defScope st) dvs kws fI fd) (hbd : L2.Binds K fd ["self", p1, p2, p3] []) (S : L2.FnScope ["self", p1, p2, p3] ["self", p1, p2, p3] (L2.defScope st)) (n1 : PySem.W.findIn K (.ref C) f1 = some none) (n2 : PySem.W.findIn K (.ref C) f2 = some none) (n3 : PySem.W.findIn K (.ref C) f3 = some none)
    (hb : ∀ (cdv : Value) (A : Around) (outer : List Env) (s : Shared) (H : Hp) (E : XK), PSs (L2.cxOf (L2.CX P w) P w K mg base ["self", p1, p2, p3] qual (L2.defScope st) fI cdv A outer s H E) (L2.defBody st) (tIni3 K m f1 f2 f3)) : XIni P w K mg base 1 cn [f1, f2, f3] := by
  refine ⟨C, fI, fd, ["self", p1, p2, p3], gC, T, iC, tI, F.ok (CX := L2.CX P w) S (fun vs H Q E ⟨a, ys, e, l, _⟩ => by rw [e, List.length_cons, l]; rfl) fun cdv A outer s H vs Q E hr hsp => ⟨_, hb cdv A outer s H E, ?_⟩, hbd⟩
  obtain ⟨a, ys, rfl, hl, ea, go⟩ := hsp
  match ys, hl with
  | [y1, y2, y3], _ =>
    refine ⟨.ref a, rfl, a, C, [.str m], rfl, by simp, T, ea, y1, rfl, .ref a, rfl, a, C, rfl, T, n1, .inl ⟨ea, fun dx hd ne => ?_⟩⟩
    refine ⟨y2, rfl, .ref a, rfl, a, C, rfl, T, n2, .inr ⟨dx, [(f1, y1)], L2.upd_same, exH_d ne, by simp, ?_⟩⟩
    rw [exH ne]
    refine ⟨y3, rfl, .ref a, rfl, a, C, rfl, T, n3, .inr ⟨dx, [(f2, y2), (f1, y1)], L2.upd_same, exH_d ne, by simp, ?_⟩⟩
    rw [exH ne]
    exact go dx hd ne
end
/-- facts of a class with such an __init__, of the base -/
inductive Xb where
  | oex (cn : Str)
  | kbs (y : Str)
  | sup (cn m : Str)
def oexB (K : PySem.W.Frag) (C : Addr) : Bool := match K.lookup C with
  | some ⟨.type t, _, .cls cd, sl⟩ => decide (t = "type") && ((match cd.mro, sl.toList with
    | .ref C' :: bm, [_, _, _, _, some (.builtin n), _] => decide (C' = C) && (decide (n = "ValueError.__new__") && PySem.HandSPX.refsVE bm)
    | _, _ => false) && (cd.hasDict && !cd.hasDel))
  | _ => false
def Xb.ok (K : PySem.W.Frag) : Xb → Bool
  | .oex cn => oexB K (He.ga K cn) && (decide (PySem.W.findIn K (.ref (He.ga K cn)) "__setattr__" = some (some (.builtin "object.__setattr__"))) && (decide (PySem.W.subIn K (.ref (He.ga K cn)) (.type "BaseException") = some true) && (decide (PySem.W.typeIn K (.ref (He.ga K cn)) = some (.type "type")) && (PySem.W.keepIn K (.ref (He.ga K cn)) &&
      (decide (PySem.W.findIn K (.ref (He.ga K cn)) "__init__" = some (some (.ref (He.ma K (He.ga K cn) "__init__")))) && decide (PySem.W.typeIn K (.ref (He.ma K (He.ga K cn) "__init__")) = some (.type "function")))))))
  | .kbs y => PySem.W.readsIn K (He.ga K y) (.type "type") && (decide (PySem.W.specialIn K (.ref (He.ga K y)) "__getattribute__" = some (some (.builtin "type.__getattribute__"))) && (match PySem.W.findCls K (.ref (He.ga K y)) (.type "type") "__init__" with
    | some (.val v) => decide (v = .builtin "ValueError.__init__")
    | _ => false))
  | .sup y m => PySem.W.readsIn K (He.ga K y) (.type "type") && (decide (PySem.W.specialIn K (.ref (He.ga K y)) "__getattribute__" = some (some (.builtin "type.__getattribute__"))) && (match PySem.W.findCls K (.ref (He.ga K y)) (.type "type") m with
    | some (.val v) => decide (v = .ref (He.ma K (He.ga K y) m))
    | _ => false))
theorem oexB_ok {K : PySem.W.Frag} {C : Addr} (h : oexB K C = true) : ∃ nm q N bs bm sn sub ab col dd k0 k1 k2 k3 k5, K.lookup C = some (excClassObj nm q C N bs bm true sn sub ab col dd k0 k1 k2 k3 k5 "ValueError.__new__") ∧ PySem.HandSPX.refsVE bm = true := by
  unfold oexB at h
  split at h
  · rename_i t dd cd sl e
    rw [Bool.and_eq_true, Bool.and_eq_true] at h
    obtain ⟨h1, h2, h3⟩ := h
    split at h2
    · rename_i C' bm k0 k1 k2 k3 n k5 em es
      rw [Bool.and_eq_true, Bool.and_eq_true] at h2
      obtain ⟨g1, g2, g3⟩ := h2
      have g1 := of_decide_eq_true g1
      have g2 := of_decide_eq_true g2
      have h1 := of_decide_eq_true h1
      subst g1 g2 h1
      rw [Bool.and_eq_true] at h3
      obtain ⟨nm, bs, mro, ns, qn, hd, sn, sub, ab, col, del⟩ := cd
      dsimp only at em h3
      subst em
      have hd1 := h3.1
      have hd2 : del = false := by simpa using h3.2
      subst hd1 hd2
      have esl : sl = #[k0, k1, k2, k3, some (.builtin "ValueError.__new__"), k5] := by
        obtain ⟨l⟩ := sl
        have es' : l = _ := es
        rw [es']
      subst esl
      exact ⟨nm, qn, ns, bs, bm, sn, sub, ab, col, dd, k0, k1, k2, k3, k5, e, g3⟩
    · cases h2
  · cases h
theorem Xb.oex_ok {K : PySem.W.Frag} {cn : Str} (h : Xb.ok K (.oex cn) = true) : L2.OexC K (He.ga K cn) ∧ PySem.W.findIn K (.ref (He.ga K cn)) "__init__" = some (some (.ref (He.ma K (He.ga K cn) "__init__"))) ∧ PySem.W.typeIn K (.ref (He.ma K (He.ga K cn) "__init__")) = some (.type "function") := by
  unfold Xb.ok at h
  simp only [Bool.and_eq_true, decide_eq_true_eq] at h
  obtain ⟨h1, h2, h3, h4, h5, h6, h7⟩ := h
  exact ⟨⟨oexB_ok h1, h2, h3, h4, h5⟩, h6, h7⟩
theorem kbase_of {K : PySem.W.Frag} {mg : Str → Option Value} {y : Str} (gY : mg y = some (.ref (He.ga K y))) (h : Xb.ok K (.kbs y) = true) : KBase K mg y := by
  unfold Xb.ok at h
  simp only [Bool.and_eq_true, decide_eq_true_eq] at h
  obtain ⟨h1, h2, h3⟩ := h
  refine ⟨_, gY, h1, h2, ?_⟩
  split at h3
  · rename_i v e
    rw [e, of_decide_eq_true h3]
  · cases h3
abbrev AlY : Type := AlX × Bool
/-- what is looked at: the module's, and where the statics stand -/
def asY (g : Addr → Option Obj) (n : Nat) : List Addr := cStatics :: He.asD g n
def SaysY' (fa : List He.Fa) (fn : List He.DefD) (gs : List (Str × D)) (xa : List Xa) (xb : List Xb) (K : PySem.W.Frag) : Prop := SaysX' fa fn gs xa K ∧ xb.all (Xb.ok K) = true
theorem SaysY'.bt {fa : List He.Fa} {fn : List He.DefD} {gs : List (Str × D)} {xa : List Xa} {xb : List Xb} {K : PySem.W.Frag} (c : SaysY' fa fn gs xa xb K) (i : Nat) {x : Xb} (h : xb[i]? = some x) : Xb.ok K x = true := List.all_eq_true.mp c.2 x (List.mem_of_getElem? h)
/-- no exception comes out of an __init__ -/
theorem passes0 {X : Cx} : L2.Passes (L2.CX X.prog X.w) X (fun _ _ _ => False) := fun _ _ _ _ _ _ _ h => by
  obtain ⟨_, _, _, _, _, _, _, _, _, _, _, _, z⟩ := h
  exact z.elim
end VS
set_option Elab.async false
set_option linter.all false
set_option maxRecDepth 100000
set_option maxHeartbeats 4000000
/-! VS66: the facts that a division of great numbers asks for, looked at behind the program's top. Own work. -/
namespace VS
open PySem PySem.Spec PyProof.Rows
open L2 (V Hp HO upd SqL SqT Rd Cx)
/-- a namespace without these names -/
def nsB (K : PySem.W.Frag) (a : Addr) (xs : List Str) : Bool := match K.lookup a with
  | some o => (match o.data with
    | .dict es _ => es.all (fun e => match e.key with | .str _ _ => true | _ => false) && xs.all fun x => (nsFind es x).isNone
    | _ => false)
  | none => false
theorem nsB_ok {K : PySem.W.Frag} {a : Addr} {xs : List Str} (h : nsB K a xs = true) {hp : Heap} (X : K.In hp) : ∃ mc, hp.Ns a mc ∧ ∀ x ∈ xs, mc x = none := by
  unfold nsB at h
  split at h
  · rename_i o eo
    split at h
    · rename_i es ep ed
      rw [Bool.and_eq_true] at h
      have g := X _ _ eo
      have i : hp.isNs a = true := by
        unfold Heap.isNs
        rw [g]
        dsimp only
        rw [ed]
        exact h.1
      refine ⟨_, .of_isNs i, fun x hx => ?_⟩
      have z := List.all_eq_true.mp h.2 x hx
      unfold Heap.nsMap
      rw [g]
      dsimp only
      rw [ed]
      exact Option.isNone_iff_eq_none.mp z
    · cases h
  · cases h
def modB (K : PySem.W.Frag) : Bool := match K.lookup (He.ga K "__builtins__") with
  | some ob => decide (ob.cls = .type "module") && decide (ob.dict = some builtinsNs)
  | none => false
def pyB (K : PySem.W.Frag) : Bool := nsB K cStatics ["sys.audit-hooks", "sys.dict"] && (nsB K sysModules ["_pylong"] && modB K)
theorem pyK_of {P : Program} {K : PySem.W.Frag} {mg : Str → Option Value} (ht : P.given.tree = none) (h : pyB K = true) (gb : mg "__builtins__" = some (.ref (He.ga K "__builtins__"))) : PyK P K mg := by
  unfold pyB at h
  simp only [Bool.and_eq_true] at h
  obtain ⟨h1, h2, h3⟩ := h
  refine ⟨ht, fun hp X => ?_, fun hp X => ?_, ?_⟩
  · obtain ⟨mc, n, q⟩ := nsB_ok h1 X
    exact ⟨mc, n, q _ (by simp), q _ (by simp)⟩
  · obtain ⟨mc, n, q⟩ := nsB_ok h2 X
    exact ⟨mc, n, q _ (by simp)⟩
  · unfold modB at h3
    split at h3
    · rename_i ob e
      rw [Bool.and_eq_true] at h3
      exact ⟨_, ob, gb, e, of_decide_eq_true h3.1, of_decide_eq_true h3.2⟩
    · cases h3
abbrev AlZ : Type := AlY × Bool
def asZ (g : Addr → Option Obj) (n : Nat) : List Addr := sysModules :: asY g n
def obsZ (n : Nat) (fa : List He.Fa) (fn : List He.DefD) (gs : List (Str × D)) (xa : List Xa) (xb : List Xb) (g : Addr → Option Obj) : AlZ :=
  (((He.obsD fa fn (He.frG g (asZ g n)), gs.all (gdG (He.frG g (asZ g n))), xa.all (Xa.ok (He.frG g (asZ g n)))), xb.all (Xb.ok (He.frG g (asZ g n)))), pyB (He.frG g (asZ g n)))
def SaysZ' (fa : List He.Fa) (fn : List He.DefD) (gs : List (Str × D)) (xa : List Xa) (xb : List Xb) (K : PySem.W.Frag) : Prop := SaysY' fa fn gs xa xb K ∧ pyB K = true
def hookZ (n : Nat) (fa : List He.Fa) (fn : List He.DefD) (gs : List (Str × D)) (xa : List Xa) (xb : List Xb) : PySem.W.Hook where
  α := AlZ
  obs := fun s => obsZ n fa fn gs xa xb s.heap.get?
  val := fun _ => (((He.valD fn, true, true), true), true)
  says := fun _ h => ∃ K : PySem.W.Frag, K.In h ∧ SaysZ' fa fn gs xa xb K
  of := fun _ _ e => ⟨_, He.frG_in, ⟨⟨⟨congrArg (fun z : AlZ => z.1.1.1) e, congrArg (fun z : AlZ => z.1.1.2.1) e⟩, congrArg (fun z : AlZ => z.1.1.2.2) e⟩, congrArg (fun z : AlZ => z.1.2) e⟩, congrArg (fun z : AlZ => z.2) e⟩
  keeps := fun _ _ _ ⟨K, hK, c⟩ k => ⟨K, PySem.W.Frag.In.keeps hK k, c⟩
theorem obsZ_eq {n : Nat} {fa : List He.Fa} {fn : List He.DefD} {gs : List (Str × D)} {xa : List Xa} {xb : List Xb} {g : Addr → Option Obj} {s : Shared} (h : ∀ a, g a = s.heap.get? a) : obsZ n fa fn gs xa xb g = (hookZ n fa fn gs xa xb).obs s := by
  have e : g = s.heap.get? := funext h
  rw [e] <;> rfl
end VS
set_option Elab.async false
set_option linter.all false
set_option maxRecDepth 100000
set_option maxHeartbeats 4000000
/-! VS79: exceptions as values: C('..'), C(e, ..), isinstance(x, C) of such, x.f of such. Own work. -/
namespace VS
open PySem PySem.Spec PyProof.Rows
open L2 (V Hp HO upd SqL SqT Rd Cx TE TT TA TS TG TGs VK XK WX PE PT PA PS PSs PG PGs OpR RelV CallR Sp FnOk atI ObjOk)
/-- the object at a, known -/
def frO (a : Addr) (oe : Obj) : HO := .frz oe (.ext fun h => h.get? a = some oe)
theorem frO_ok {P : Program} {w : World} {H : Hp} {h : Heap} {a : Addr} {oe : Obj} (e : h.get? a = some oe) : ObjOk P w H h a (frO a oe) :=
  ⟨e, e, ⟨oe, e⟩, fun _ _ q k => k oe q⟩
section
variable {X : Cx} {pins : List (Addr × Obj)} {σ : L2.St} {H : Hp}
/-- what makes an exception makes a value -/
theorem pe_ofMk {e : Expr} {t : L2.St → Hp → XK → Prop} (he : L2.PMk X e t) :
    PE X e (fun σ H Q => t σ H fun cls d H1 => ∀ a oe, H1 a = none → oe.cls = cls → oe.dict = d → (∃ vs, oe.data = .fields vs) → Q (.ref a) (upd H1 a (frO a oe))) := by
  refine ⟨fun pins s σ H Q I h => ?_⟩
  refine wpAny_mono (he pins s σ H _ I h) (fun u s' hu => ?_) fun _ _ x => x
  obtain ⟨a, oe, vs, sI, H', cls, d, rfl, J, k, hne, ha, hz, hd, h1, na, os, ag, r, q⟩ := hu
  obtain ⟨a1, a2, a3, a4, a5⟩ := s'
  have e5 : a5 = sI.os := os
  subst e5
  have J' := J.call (ch := []) (h' := a1) (g' := a2) (t' := a4) (d' := a3) (H' := upd H' a (frO a oe)) (L2.Un.laidN k hne na) (J.hok.laidN k na (frO_ok ha)) ag (fun _ z => nomatch z)
  exact ⟨.ref a, _, J', rfl, q a oe na hz.1 hz.2 ⟨vs, hd⟩⟩
end
section
variable {X : Cx} {c : Fr} {W : WX} {p : Bool} {M : Addr → Prop}
/-- C('..') of an own class without __init__ -/
def mkE (cn : Str) : ES := fun ρ K _ => K (.v (.ex cn [] [])) ρ
theorem ej_mk {x m : Str} {j : Nat} {pp p2 pos : Pos} (hK : X.K = c.g.K) (hmg : X.mg = c.g.mg) (xc : XCls c.g.K c.g.mg x) (hg : L2.Gl X x)
    (hdb : (x == ("__debug__" : Str)) = false := by decide) : EJ X c W true (.Call (.Name x pp) [.Constant (.str m) j p2] [] pos) (mkE x) := by
  obtain ⟨C, gC, q, kC, sb, ty⟩ := xc.ex
  have gC' : X.mg x = some (.ref C) := by rw [hmg]; exact gC
  refine ⟨fun ρ K K' E E' hk _ h => hk _ _ h, PE.imp (pe_ofMk (L2.pmk_own PySem.F.excBase_ValueError (by rw [hK]; exact q) gC' (by rw [hK]; exact kC) (L2.raises_own (by rw [hK]; exact sb) (by rw [hK]; exact ty)) hg hdb)) ?_⟩
  rintro σ H Q ⟨ρ, M, T, s, h⟩ a oe hn e1 e2 e3
  exact h _ _ M [] ((Post.same s).ext (Ext.new hn)) (.v (.ex0 L2.upd_same ⟨e1, e2, e3⟩ gC))
/-- C(e, ..) of an own class whose __init__ sets fields -/
def mkIE (cn : Str) (fl : List Str) (g : AS) : ES := fun ρ K E => g ρ (fun xs ρ' => match allV xs with
  | some ds => (ds.length = fl.length ∧ ds.length ≤ 100) ∧ K (.v (.ex cn fl.reverse ds.reverse)) ρ'
  | none => False) E
theorem mkIE_mono {cn : Str} {fl : List Str} {g : AS} (hg : MonoA g) : Mono (mkIE cn fl g) := fun ρ K K' E E' hk he h => hg _ _ _ _ _ (fun xs ρ' q => by
  split at q
  · exact ⟨q.1, hk _ _ q.2⟩
  · exact q) he h
theorem ej_mkI {cn : Str} {fl : List Str} {j k : Nat} {e : Expr} {es : List Expr} {g : AS} {pp pos : Pos} (hK : X.K = c.g.K) (hmg : X.mg = c.g.mg) (hr : L2.Room k X.A) (hjk : j + 1 ≤ k) (tk : L2.Takes X W) (xi : XIni X.prog X.w c.g.K c.g.mg X.base j cn fl) (hx : L2.Passes (L2.CX X.prog X.w) X (fun _ _ _ => False)) (hg : L2.Gl X cn) (ha : AJ X c W p (e :: es) g)
    (hdb : (cn == ("__debug__" : Str)) = false := by decide) (he : starEach (e :: es) X.env = (false, eval e X.env) :: starEach es X.env := by rfl) (hpl : (backTo pos (starEach es X.env)).any (·.1) = false := by rfl) :
    EJ X c W p (.Call (.Name cn pp) (e :: es) [] pos) (mkIE cn fl g) := by
  obtain ⟨C, fI, fd, ps, gC, T, iC, tI, G, hb⟩ := xi.ex
  have T' : L2.OexC X.K C := by rw [hK]; exact T
  refine ⟨mkIE_mono ha.mono, PE.imp (pe_ofMk (L2.pmk_oex (dvs := []) (ds := []) (k := j) (CX := L2.CX X.prog X.w) T' (by rw [hK]; exact iC) (by rw [hK]; exact tI) (by rw [hK, hmg]; exact G) (hr.mono hjk) (by rw [hK]; exact hb) .nil hx hg (by rw [hmg]; exact gC) ha.run hdb he hpl)) ?_⟩
  rintro σ H Q ⟨ρ, M, T0, s, q⟩
  refine ⟨ρ, M, T0, s, ha.mono _ _ _ _ _ (fun xs ρ' q vs H' M' as q1 r1 => ?_) (fun x ρ' q => q) q⟩
  split at q
  · rename_i ds eds
    obtain ⟨rs, e0⟩ := r1.allV eds
    subst e0
    have hlv : vs.length = fl.length := rs.length.trans q.1.1
    have hds : ds.length = vs.length := rs.length.symm
    have h100 := q.1.2
    refine ⟨by omega, fun a ha0 => ⟨a, vs ++ [], rfl, by simpa using hlv, L2.upd_same, fun dx hdx ne => ⟨rfl, dx, (fl.zip vs).reverse, L2.upd_same, ?_, ?_, ?_⟩⟩⟩
    · rw [L2.upd_ne ne, L2.upd_same, List.append_nil]
    · rw [L2.upd_ne ne] at hdx
      exact hdx
    · rw [L2.upd_ne ne] at hdx
      have eH : upd (L2.del (upd (upd (upd H' a (L2.exo a C none)) dx (L2.exd dx (fl.zip (vs ++ [])).reverse)) a (L2.exo a C (some dx))) a) dx (.xd (fl.zip vs).reverse) = upd H' dx (.xd (fl.zip vs).reverse) := by
        funext b
        by_cases hb : b = dx
        · rw [hb, L2.upd_same, L2.upd_same]
        · rw [L2.upd_ne hb, L2.upd_ne hb]
          by_cases hba : b = a
          · rw [hba, L2.del_same, ha0]
          · rw [L2.del_ne hba, L2.upd_ne hba, L2.upd_ne hb, L2.upd_ne hba]
      rw [eH]
      intro a2 oe na2 e1 e2 e3
      have x1 : Ext H' (upd H' dx (.xd (fl.zip vs).reverse)) := Ext.new hdx
      have x2 : Ext (upd H' dx (.xd (fl.zip vs).reverse)) (upd (upd H' dx (.xd (fl.zip vs).reverse)) a2 (frO a2 oe)) := Ext.new na2
      have x := x1.trans x2
      refine q.2 _ _ M' [] (q1.ext x) (.v (.ex1 L2.upd_same ⟨e1, e2, e3⟩ gC (x2 _ _ L2.upd_same) ?_ ?_ (rs.ext x).rev))
      · rw [List.map_reverse, zip_fst hlv]
      · rw [List.map_reverse, zip_snd hlv]
  · exact q.elim
end
section
variable {X : Cx} {c : Fr} {W : WX} {p : Bool} {M : Addr → Prop} {i : Nat}
/-- the object of an exception and its dict, as the heap has them -/
def XAt (H : Hp) (a C : Addr) : Prop := ∃ oe d u, H a = some (.frz oe u) ∧ XObj oe C d ∧ ∀ dd, d = some dd → ∃ fs, H dd = some (.xd fs)
theorem xAt_inst {pins : List (Addr × Obj)} {s : Shared} {σ : L2.St} {H : Hp} {a C : Addr} (I : L2.Inv X pins σ H s) (x : XAt H a C) : ∃ ox od, PySem.W.InstAt s.heap a ox C od := by
  obtain ⟨oe, d, u, e, ⟨hc, hdi, hd⟩, hx⟩ := x
  obtain ⟨ha, _⟩ : ObjOk X.prog X.w H s.heap a (.frz oe u) := I.hok a _ e
  obtain ⟨vs, hd⟩ := hd
  have hnc : PySem.W.notCls oe = true := by unfold PySem.W.notCls; rw [hd] <;> rfl
  cases d with
  | none => exact ⟨oe, none, ha, hc, hnc, by rw [hdi]; exact trivial⟩
  | some dd =>
    obtain ⟨fs, e⟩ := hx dd rfl
    have hx : ObjOk X.prog X.w H s.heap dd (.xd fs) := I.hok dd _ e
    obtain ⟨mA, hns, hr⟩ := hx
    obtain ⟨od, ho, hl⟩ := L2.lookIn_ns hns
    exact ⟨oe, some od, ha, hc, hnc, by rw [hdi]; exact ho⟩
theorem call_isv : CallR X (.builtin "isinstance") (fun xs H Q => ∃ a C v cv b, xs = [.ref a, v] ∧ XAt H a C ∧ (∀ u, RelV v u → u = cv) ∧ L2.ExcC X.K C ∧ PySem.W.kitOne X.K (.ref C) cv = some b ∧ Q (.bl b) H) := by
  intro pins s σ H xs us Q I r h
  obtain ⟨a, C, v, cv, b, rfl, x, hcv, E, e, q⟩ := h
  obtain ⟨u, w', rfl, r1, r2⟩ := L2.vals2 r
  obtain rfl : u = Value.ref a := r1
  have ec := hcv _ r2
  subst ec
  obtain ⟨ox, od, J⟩ := xAt_inst I x
  exact PySem.W.kia_one (kitx_of_exc E) I.kIn J e (fun z => nomatch z) fun tk => ⟨.bl b, H, I.kept (t' := tk) fun _ _ z => z, rfl, q⟩
theorem Rep.xat {g : Ge} {Z : Addr → Prop} {H : Hp} {v : V} {cn : Str} {ns : List Str} {ds : List D} (r : Rep g Z M H v (.ex cn ns ds)) : ∃ a C, v = .ref a ∧ g.mg cn = some (.ref C) ∧ XAt H a C := by
  cases r with
  | ex0 e x h => exact ⟨_, _, rfl, h, _, _, _, e, x, fun _ z => nomatch z⟩
  | ex1 e x h f n w r => exact ⟨_, _, rfl, h, _, _, _, e, x, fun dd z => by cases z; exact ⟨_, f⟩⟩
/-- isinstance(x, C), x a variable that holds an exception -/
def isvE (L : List (Str × Bool)) (i : Nat) : ES := fun ρ K _ => match ρ[i]? with
  | some (.v (.ex cn _ _)) => (match lookB L cn with
    | some b => K (.v (.bl b)) ρ
    | none => False)
  | _ => False
theorem isvE_mono {L : List (Str × Bool)} : Mono (isvE L i) := fun ρ K K' E E' hk _ h => by
  unfold isvE at h ⊢
  split at h
  · split at h
    · exact hk _ _ h
    · exact h
  · exact h
theorem ej_isv {e : Expr} {y : Str} {L : List (Str × Bool)} {pp py pos : Pos} (p0 : Str × Bool) (L' : List (Str × Bool)) (hL : L = p0 :: L') (hK : X.K = c.g.K) (hmg : X.mg = c.g.mg)
    (hgi : L2.Gl X "isinstance") (hmi : X.mg "isinstance" = none) (hvi : bootBuiltins "isinstance" = some (.builtin "isinstance")) (kn : ∀ p ∈ L, KN c.g.K c.g.mg p.1 y p.2) (he : PE X e (L2.tVar i)) (hgy : L2.Gl X y)
    (hdb : (y == ("__debug__" : Str)) = false := by decide)
    (hs : starEach [e, .Name y py] X.env = (false, eval e X.env) :: starEach [.Name y py] X.env := by rfl) (hs2 : starEach [.Name y py] X.env = [(false, eval (.Name y py) X.env)] := by rfl) (hpl : (backTo pos (starEach [.Name y py] X.env)).any (·.1) = false := by rfl) :
    EJ X c W true (.Call (.Name "isinstance" pp) [e, .Name y py] [] pos) (isvE L i) := by
  obtain ⟨C0, v, cv, _, _, hcv, _⟩ := (kn p0 (by rw [hL]; exact List.mem_cons_self)).ex
  have pe : PE X (.Name y py) (L2.tC v) := CVal.pe (X := X) (by rw [hmg]; exact hcv) hgy hdb
  refine ⟨isvE_mono, PE.imp (L2.pe_callB (X := X) call_isv hgi hmi hvi (L2.pa_cons he (L2.pa_cons pe L2.pa_nil hs2) hs) (by decide) (by decide) hs hpl) ?_⟩
  rintro σ H Q ⟨ρ, M, T', s, k⟩
  unfold isvE at k
  split at k
  · rename_i cn ns ds e0
    split at k
    · rename_i b l
      obtain ⟨w, as, hv, ro, _⟩ := s.read e0 (fun z => nomatch z)
      cases ro with
      | v r =>
        obtain ⟨a, C, rfl, gC, x⟩ := r.xat
        obtain ⟨C', v', cv', g1, E, hcv', hk⟩ := (kn _ (lookB_mem l)).ex
        obtain ⟨rfl, rfl⟩ := hcv.inj hcv'
        rw [show c.g.mg cn = _ from gC] at g1
        cases g1
        exact ⟨.ref a, hv, a, C, v', cv', b, rfl, x, hcv.rel.2, hK ▸ E, hK ▸ hk, k (.bl b) H M [] (Post.same s) (.v (.bl b))⟩
    · exact k.elim
  · exact k.elim
/-- x.f, x a variable that holds an exception of the class cn -/
def xvE (cn f : Str) (i : Nat) : ES := fun ρ K _ => match ρ[i]? with
  | some (.v (.ex cn' ns ds)) => cn' = cn ∧ (match lookF ns ds f with
    | some d => K (.v d) ρ
    | none => False)
  | _ => False
theorem xvE_mono {cn f : Str} : Mono (xvE cn f i) := fun ρ K K' E E' hk _ h => by
  unfold xvE at h ⊢
  split at h
  · refine ⟨h.1, ?_⟩
    have h2 := h.2
    split at h2
    · exact hk _ _ h2
    · exact h2
  · exact h
theorem pe_xv {C : Addr} {e : Expr} {te : TE} {pos : Pos} {n : Str} (T : L2.XfC X.K C) (hno : PySem.W.findIn X.K (.ref C) n = some none) (he : PE X e te) (hb : attributeBase e n X.env (eval e X.env) = eval e X.env := by rfl) :
    PE X (.Attribute e n pos) (fun σ H Q => te σ H fun x H1 => ∃ a oe u dd fs v, x = .ref a ∧ H1 a = some (.frz oe u) ∧ XObj oe C (some dd) ∧ H1 dd = some (.xd fs) ∧ fs.lookup n = some v ∧ Q v H1) := by
  refine ⟨fun pins s σ H Q I h => ?_⟩
  refine L2.attr_of hb (L2.thn (he.run pins s σ H _ I h) fun u s1 hh => ?_)
  obtain ⟨x, H1, I1, rx, a, oe, u', dd, fs, v, rfl, e1, ⟨hc, hdi, hd⟩, ea, l, q⟩ := hh
  obtain rfl : u = Value.ref a := rx
  obtain ⟨ha, _⟩ : ObjOk X.prog X.w H1 s1.heap a (.frz oe u') := I1.hok a _ e1
  obtain ⟨vs, hd⟩ := hd
  have hx : ObjOk X.prog X.w H1 s1.heap dd (.xd fs) := I1.hok dd _ ea
  obtain ⟨mA, hns, hr⟩ := hx
  obtain ⟨od, ho, hl⟩ := L2.lookIn_ns hns
  obtain ⟨u, hu, ru⟩ := L2.RelO.some_of (v := v) (o := mA n) (by rw [← l]; exact hr n)
  have J : PySem.W.InstAt s1.heap a oe C (some od) := ⟨ha, hc, by unfold PySem.W.notCls; rw [hd] <;> rfl, by rw [hdi]; exact ho⟩
  exact HandSPX.exc_get I1.kIn J T.ga T.gg T.exC (PySem.W.findObj_own T.hdC hno rfl (by rw [hl, hu])) (L2.handed_of ru) ⟨v, H1, I1.tok _, ru, q⟩
theorem ej_xv {e : Expr} {cn f : Str} {pos : Pos} (hK : X.K = c.g.K) (xf : XFl c.g.K c.g.mg cn f) (he : PE X e (L2.tVar i)) (hb : attributeBase e f X.env (eval e X.env) = eval e X.env := by rfl) :
    EJ X c W true (.Attribute e f pos) (xvE cn f i) := by
  obtain ⟨C, gC, T, hno⟩ := xf.ex
  refine ⟨xvE_mono, PE.imp (pe_xv (hK ▸ T) (hK ▸ hno) he hb) ?_⟩
  rintro σ H Q ⟨ρ, M, T', s, k⟩
  unfold xvE at k
  split at k
  · rename_i cn' ns ds e0
    obtain ⟨rfl, k⟩ := k
    split at k
    · rename_i dv l
      obtain ⟨w, as, hv, ro, _⟩ := s.read e0 (fun z => nomatch z)
      cases ro with
      | v r =>
        cases r with
        | ex0 e x h => simp [lookF] at l
        | @ex1 a C' dd oe u _ fs _ vs _ e x h f1 n1 w1 r1 =>
          have eC : C' = C := by rw [gC] at h; cases h; rfl
          subst eC
          subst w1
          obtain ⟨v, lv, rv⟩ := lookF_rep r1 n1 l
          exact ⟨.ref a, hv, a, oe, u, dd, fs, v, rfl, e, x, f1, lv, k v H M [] (Post.same s) (.v rv)⟩
    · exact k.elim
  · exact k.elim
end
end VS
set_option Elab.async false
set_option linter.all false
set_option maxRecDepth 100000
set_option maxHeartbeats 4000000
/-! VS25: list(range(..)), dict displays, slices, sorted ints, int of a bool. Own work. -/
namespace VS
open PySem PySem.Spec PyProof.Rows
open L2 (V Hp HO upd SqL SqT Rd Cx TE TT TA TS TG TGs VK XK WX PE PT PA PS PSs PG PGs OpR RelV CallR Sp FnOk atI)
section
variable {X : Cx} {c : Fr} {W : WX} {p p1 p2 p3 : Bool} {M M' M2 : Addr → Prop} {T T' as as1 as2 : List Addr} {σ : L2.St} {H H' H2 : Hp} {ρ ρ' ρ2 : Rho} {f g h : ES} {pos : Pos}
/-- list(range(n)) -/
def lrE (f : ES) : ES := fun ρ K E => f ρ (fun x ρ' => match x with
  | .v (.int n) => (n ≤ 100000 ∧ -100000 ≤ n) ∧ K (.m (.l (rngD 0 n.toNat))) ρ'
  | _ => False) E
/-! sorted ints -/
def intsD : List D → Option (List Int)
  | [] => some []
  | .int i :: ds => (intsD ds).map (i :: ·)
  | _ :: _ => none
def sortC : CR := fun xs K _ ρ => match xs with
  | [x] => (match (asL x).bind intsD with
    | some is => ∀ js : List Int, js.Perm is → js.Pairwise (· ≤ ·) → K (.m (.l (js.map .int))) ρ
    | none => False)
  | _ => False
/-- int(a truth or an int) -/
def intC : CR := fun xs K _ ρ => match xs with
  | [.v (.bl b)] => K (.v (.int (if b then 1 else 0))) ρ
  | [.v (.int i)] => K (.v (.int i)) ρ
  | _ => False
/-! slices of lists -/
abbrev OS := Rho → (Option Int → Rho → Prop) → (Exc → Rho → Prop) → Prop
def cutD (ds : List D) (lo hi : Option Int) : List D := (ds.drop (HT.sIx ds.length 0 lo)).take (HT.sIx ds.length ds.length hi - HT.sIx ds.length 0 lo)
def intO (p : Bool) (f : Option ES) : OS := match f with
  | none => fun ρ K _ => K none ρ
  | some f => fun ρ K E => f ρ (fun x ρ' => match x with
    | .v (.int i) => K (some i) ρ'
    | _ => False) E
def slE (f : ES) (g h : Option ES) : ES := fun ρ K E => f ρ (fun x ρ1 => intO true g ρ1 (fun i ρ2 => intO true h ρ2 (fun j ρ3 => match asL x with
  | some ds => K (.m (.l (cutD ds i j))) ρ3
  | none => False) E) E) E
end
end VS
set_option Elab.async false
set_option linter.all false
set_option maxRecDepth 100000
set_option maxHeartbeats 4000000
/-! VS28: == of a dict and a tuple. Own work. -/
namespace VS
open PySem PySem.Spec PyProof.Rows PyProof.V PySem.SeqAt
open L2 (V Hp HO upd SqL SqT Rd Cx TE TT TA TS TG TGs VK XK WX PE PT PA PS PSs PG PGs OpR RelV CallR Sp FnOk atI Inv)
section
variable {X : Cx} {c : Fr} {W : WX} {p p1 p2 : Bool}
/-- == : data to be compared, or a dict and a tuple -/
def eqXR : BR := fun x y K E ρ => match asD x, asD y with
  | some (.dct _ _), some (.tup _) => K (.v (.bl false)) ρ
  | some a, some b => (cmpD a = true ∧ cmpD b = true ∧ min (depD a) (depD b) ≤ 100) ∧ K (.v (.bl (eqD a b))) ρ
  | _, _ => False
end
/-! a call that leaves the last argument to its default -/
end VS
set_option Elab.async false
set_option linter.all false
set_option maxRecDepth 100000
set_option maxHeartbeats 4000000
/-! VS29: slices of tuples and lists, tuples put together, a tuple many times. Own work. -/
namespace VS
open PySem PySem.Spec PyProof.Rows
open L2 (V Hp HO upd SqL SqT Rd Cx TE TT TA TS TG TGs VK XK WX PE PT PA PS PSs PG PGs OpR RelV CallR Sp FnOk atI)
section
variable {X : Cx} {c : Fr} {W : WX} {p p1 p2 p3 : Bool} {M M' M2 : Addr → Prop} {T T' as as1 as2 : List Addr} {σ : L2.St} {H H' H2 : Hp} {ρ ρ' ρ2 : Rho} {f g h : ES} {pos : Pos}
def slX (f : ES) (g h : Option ES) : ES := fun ρ K E => f ρ (fun x ρ1 => intO true g ρ1 (fun i ρ2 => intO true h ρ2 (fun j ρ3 => match x with
  | .v (.tup ds) => K (.v (.tup (cutD ds i j))) ρ3
  | x => (match asL x with
    | some ds => K (.m (.l (cutD ds i j))) ρ3
    | none => False)) E) E) E
/-! t + u -/
def addT : BR := fun x y K _ ρ => match x, y with
  | .v (.tup a), .v (.tup b) => a.length + b.length ≤ 100000 ∧ K (.v (.tup (a ++ b))) ρ
  | _, _ => False
/-! t * n -/
def repT : BR := fun x y K _ ρ => match x, y with
  | .v (.tup a), .v (.int n) => (a ≠ [] ∧ 2 ≤ n ∧ n ≤ 1000 ∧ a.length ≤ 1000) ∧ K (.v (.tup (List.replicate n.toNat a).flatten)) ρ
  | _, _ => False
end
end VS
set_option Elab.async false
set_option linter.all false
set_option maxRecDepth 100000
set_option maxHeartbeats 4000000
/-! VS30: list comprehensions whose item changes what is owned. Own work. -/
namespace VS
open PySem PySem.Spec PyProof.Rows
open L2 (V Hp HO upd SqL SqT Rd Cx TE TT TA TS TG TGs TI It VK XK WX PE PT PTs PA PS PSs PG PGs PI OpR RelV CallR Sp FnOk atI wipe)
def compDx (vs : List Nat) (g : GS) (f : ES) : Rho → List D → List D → (List D → Rho → Prop) → Prop
  | ρ, [], acc, K => K acc ρ
  | ρ, d :: ds, acc, K => g (.v d) ρ (fun ρ1 => f ρ1 (fun x ρ3 => match evD x with
      | some e => compDx vs g f (wipeR ρ3 vs) ds (acc ++ [e]) K
      | none => False) (fun _ _ => False))
def compX (vs : List Nat) (it : IS) (g : GS) (f : ES) : ES := fun ρ K E => it ρ (fun ds ρ1 => ds.length ≤ 1000000 ∧ compDx vs g f (wipeR ρ1 vs) ds [] (fun out ρ2 => K (.m (.l out)) ρ2)) E
end VS
set_option Elab.async false
set_option linter.all false
set_option maxRecDepth 100000
set_option maxHeartbeats 4000000
/-! VS31: != of lists of the same data, dicts and tuples among it. Own work. -/
namespace VS
open PySem PySem.Spec PyProof.Rows PyProof.V PySem.SeqAt
open MeetsSeq MeetsSeq2 MeetsSeq3 SeqRoads2
open L2 (V Hp HO upd SqL SqT Rd Cx TE TT TA TS TG TGs VK XK WX PE PT PA PS PSs PG PGs OpR RelV CallR Sp FnOk atI Inv)
mutual
/-- data of which the same is equal: keys all apart -/
def samD : D → Bool
  | .tup ds => samDs ds
  | .lst _ ds => samDs ds
  | .dct ks ds => decide ks.Nodup && samDs ds
  | .ty _ => false
  | .fn _ => false
  | .ex _ _ _ => false
  | _ => true
def samDs : List D → Bool
  | [] => true
  | d :: ds => samD d && samDs ds
end
mutual
def hgtD : D → Nat
  | .tup ds => hgtDs ds + 1
  | .lst _ ds => hgtDs ds + 1
  | .dct _ ds => hgtDs ds + 1
  | _ => 1
def hgtDs : List D → Nat
  | [] => 0
  | d :: ds => max (hgtD d) (hgtDs ds)
end
def flatD : D → Bool
  | .non => true
  | .bl _ => true
  | .int _ => true
  | .str _ => true
  | _ => false
theorem Reps.put : ∀ {g : Ge} {Z M : Addr → Prop} {H : Hp} {vs : List V} {ds : List D}, Reps g Z M H vs ds → ∀ {i : Nat} {d : D}, ds[i]? = some d → ∃ v, vs[i]? = some v ∧ Rep g Z M H v d
  | _, _, _, _, _, _, .nil, _, _, e => by simp at e
  | _, _, _, _, _, _, .cons r rs, 0, _, e => by cases e; exact ⟨_, rfl, r⟩
  | _, _, _, _, _, _, .cons r rs, i + 1, _, e => rs.put (by simpa using e)
section
variable {X : Cx} {c : Fr} {W : WX} {p p1 p2 : Bool}
/-- != of any data, the same lists and dicts that hold dicts among it -/
def neYR : BR := fun x y K E ρ => match x, y with
  | .v (.lst _ d1), .v (.lst _ d2) => ((d1 = d2 ∧ samDs d1 = true ∧ hgtDs d1 ≤ 60) ∧ K (.v (.bl false)) ρ) ∨ eqR true x y K E ρ
  | .v (.dct k1 d1), .v (.dct k2 d2) => (d1 = d2 ∧ k1 = k2 ∧ k1.Nodup ∧ ∀ d ∈ d1, flatD d = true) ∧ K (.v (.bl false)) ρ
  | x, y => eqR true x y K E ρ
end
end VS
set_option Elab.async false
set_option linter.all false
set_option maxRecDepth 100000
set_option maxHeartbeats 4000000
/-! VS32: list(reversed(a list)). Own work. -/
namespace VS
open PySem PySem.Spec PyProof.Rows PyProof.V
open L2 (V Hp HO upd SqL SqT Rd Cx TE TT TA TS TG TGs VK XK WX PE PT PA PS PSs PG PGs OpR RelV CallR Sp FnOk atI Inv)
section
variable {X : Cx} {c : Fr} {W : WX} {p : Bool} {pos pos' : Pos}
def lrevE (f : ES) : ES := fun ρ K E => f ρ (fun x ρ' => match asL x with
  | some ds => K (.m (.l ds.reverse)) ρ'
  | none => False) E
end
end VS
set_option Elab.async false
set_option linter.all false
set_option maxRecDepth 100000
set_option maxHeartbeats 4000000
/-! VS33: an owned tuple compared, and a list in it changed. Own work. -/
namespace VS
open PySem PySem.Spec PyProof.Rows
open L2 (V Hp HO upd SqL SqT Rd Cx TE TT TA TS TG TGs VK XK WX PE PT PA PS PSs PG PGs OpR RelV CallR Sp FnOk atI)
section
variable {X : Cx} {c : Fr} {W : WX} {p p1 p2 : Bool} {M M1 M' M2 : Addr → Prop} {T T' as as1 as2 : List Addr} {σ σ1 : L2.St} {H H1 H' H2 : Hp} {ρ ρ1 ρ' ρ2 : Rho}
def heldR (i : Nat) (ρ : Rho) : Prop := match ρ[i]? with
  | some .no => False
  | some _ => True
  | none => False
/-- name == e, name != e: what the name holds, its own or not -/
def cmpO (neg : Bool) (i : Nat) (g : ES) : ES := fun ρ K E => heldR i ρ ∧ g ρ (fun y ρ2 => match ρ2[i]? with
  | some s => (match frSl s, asD y with
    | some a, some b => (cmpD a = true ∧ cmpD b = true ∧ min (depD a) (depD b) ≤ 100) ∧ K (.v (.bl (if neg then !eqD a b else eqD a b))) ρ2
    | _, _ => False)
  | none => False) E
/-! a list that nobody else holds is changed -/
/-- e.append(n), e a list that nobody else holds -/
def appT (f : ES) (n : Int) : ES := fun ρ K E => f ρ (fun x ρ1 => match x with
  | .m (.l ds) => ds.length < 1000000 ∧ K (.v .non) ρ1
  | _ => False) E
end
end VS
set_option Elab.async false
set_option linter.all false
set_option maxRecDepth 100000
set_option maxHeartbeats 4000000
/-! VS34: in and not in, of lists of data. Own work. -/
namespace VS
open PySem PySem.Spec PyProof.Rows
open L2 (V Hp HO upd SqL SqT Rd Cx TE TT TA TS TG TGs VK XK WX PE PT PA PS PSs PG PGs OpR RelV CallR Sp FnOk atI)
section
variable {X : Cx} {c : Fr} {W : WX} {p p1 p2 : Bool}
def inR (neg : Bool) : BR := fun x y K _ ρ => match asD x, asD y with
  | some a, some (.lst _ ds) => (cmpD a = true ∧ cmpDs ds = true ∧ min (depDs ds) (depD a) ≤ 60) ∧ K (.v (.bl (if neg then !(ds.any fun z => eqD z a) else ds.any fun z => eqD z a))) ρ
  | _, _ => False
end
end VS
set_option Elab.async false
set_option linter.all false
set_option maxRecDepth 100000
set_option maxHeartbeats 4000000
/-! VM1: fractions as Rat, sizes of ints. Plain mathematics. Own work. -/
namespace VS
/-- the size of an int -/
def Si (n : Nat) (a : Int) : Prop := a.natAbs < 2 ^ n
theorem Si.mono {n m : Nat} {a : Int} (h : Si n a) (l : n ≤ m) : Si m a := Nat.lt_of_lt_of_le h (Nat.pow_le_pow_right (by decide) l)
theorem Si.add {n m : Nat} {a b : Int} (h : Si n a) (h2 : Si m b) : Si (max n m + 1) (a + b) := by
  have h := h.mono (Nat.le_max_left n m)
  have h2 := h2.mono (Nat.le_max_right n m)
  unfold Si at *
  rw [Nat.pow_succ]
  omega
theorem Si.neg {n : Nat} {a : Int} (h : Si n a) : Si n (-a) := by unfold Si at *; omega
theorem Si.sub {n m : Nat} {a b : Int} (h : Si n a) (h2 : Si m b) : Si (max n m + 1) (a - b) := by
  rw [Int.sub_eq_add_neg]; exact h.add h2.neg
theorem Si.mul {n m : Nat} {a b : Int} (h : Si n a) (h2 : Si m b) : Si (n + m) (a * b) := by
  unfold Si at *
  rw [Int.natAbs_mul, Nat.pow_add]
  exact Nat.mul_lt_mul'' h h2
theorem Si.log {n m : Nat} {a : Int} (h : Si n a) (h1 : n ≤ m) (h0 : 0 < m) : a.natAbs.log2 < m := by
  by_cases e : a.natAbs = 0
  · rw [e]; simpa using h0
  · exact (Nat.log2_lt e).mpr (h.mono h1)
theorem Si.of_le {n : Nat} {a b : Int} (h : Si n b) (l : a.natAbs ≤ b.natAbs) : Si n a := Nat.lt_of_le_of_lt l h
theorem MulOk.of {n m : Nat} {a b : Int} (h : Si n a) (h2 : Si m b) (l : n + m < 129999999) : MulOk a b := by
  have e1 := h.log (m := n + 1) (by omega) (by omega)
  have e2 := h2.log (m := m + 1) (by omega) (by omega)
  unfold MulOk; omega
/-- the size of a fraction -/
structure Sm (n : Nat) (q : Rat) : Prop where
  num : Si n q.num
  den : Si n (q.den : Int)
theorem Sm.mono {n m : Nat} {q : Rat} (h : Sm n q) (l : n ≤ m) : Sm m q := ⟨h.1.mono l, h.2.mono l⟩
theorem den_pos (q : Rat) : 0 < (q.den : Int) := by have := q.den_pos; omega
theorem den_ne (q : Rat) : (q.den : Int) ≠ 0 := by have := q.den_pos; omega
theorem num_eq (q : Rat) : (q.num : Rat) = q * ((q.den : Int) : Rat) := by
  have h : ((q.den : Int) : Rat) ≠ 0 := by simpa using q.den_nz
  have := Rat.num_divInt_den q
  rw [Rat.divInt_eq_div] at this
  grind
theorem nd (q : Rat) : (q.num : Rat) / ((q.den : Int) : Rat) = q := by
  rw [← Rat.divInt_eq_div]; exact Rat.num_divInt_den q
theorem frac_num {a b : Int} (hb : b ≠ 0) : ((a : Rat) / b).num = a.fdiv (if b < 0 then 0 - (Int.gcd a b : Int) else Int.gcd a b) := by
  rw [← Rat.divInt_eq_div, Rat.num_divInt, Int.gcd_comm b a]
  have g0 : (0 : Int) < (Int.gcd a b : Int) := by
    have := Int.gcd_pos_iff (a := a) (b := b); omega
  have hd : ((Int.gcd a b : Nat) : Int) ∣ a := Int.gcd_dvd_left ..
  obtain ⟨c, hc⟩ := hd
  generalize hg : ((Int.gcd a b : Nat) : Int) = g at *
  subst hc
  split
  · rename_i h
    rw [Int.sign_eq_neg_one_of_neg h]
    rw [show -1 * (g * c) = g * (-c) by grind, Int.mul_ediv_cancel_left _ (by omega)]
    rw [Int.fdiv_eq_ediv_of_dvd ⟨-c, by grind⟩, show g * c = (0 - g) * (-c) by grind, Int.mul_ediv_cancel_left _ (by omega)]
  · rename_i h
    rw [Int.sign_eq_one_of_pos (by omega), Int.one_mul, Int.mul_ediv_cancel_left _ (by omega), Int.fdiv_eq_ediv_of_dvd ⟨c, rfl⟩, Int.mul_ediv_cancel_left _ (by omega)]
theorem frac_den {a b : Int} (hb : b ≠ 0) : ((((a : Rat) / b).den : Nat) : Int) = b.fdiv (if b < 0 then 0 - (Int.gcd a b : Int) else Int.gcd a b) := by
  rw [← Rat.divInt_eq_div, Rat.den_divInt, if_neg hb, Int.gcd_comm b a]
  have g0 : (0 : Int) < (Int.gcd a b : Int) := by
    have := Int.gcd_pos_iff (a := a) (b := b); omega
  have hd : ((Int.gcd a b : Nat) : Int) ∣ b := Int.gcd_dvd_right ..
  obtain ⟨c, hc⟩ := hd
  have e : ((b.natAbs / Int.gcd a b : Nat) : Int) = (b.natAbs : Int) / (Int.gcd a b : Int) := rfl
  rw [e]
  generalize hg : ((Int.gcd a b : Nat) : Int) = g at *
  subst hc
  split
  · rename_i h
    have : ((g * c).natAbs : Int) = g * (-c) := by rw [Int.ofNat_natAbs_of_nonpos (by omega)]; grind
    rw [this, Int.mul_ediv_cancel_left _ (by omega)]
    rw [Int.fdiv_eq_ediv_of_dvd ⟨-c, by grind⟩, show g * c = (0 - g) * (-c) by grind, Int.mul_ediv_cancel_left _ (by omega)]
  · rename_i h
    have : ((g * c).natAbs : Int) = g * c := Int.natAbs_of_nonneg (by omega)
    rw [this, Int.mul_ediv_cancel_left _ (by omega), Int.fdiv_eq_ediv_of_dvd ⟨c, rfl⟩, Int.mul_ediv_cancel_left _ (by omega)]
theorem fdiv_le {a g : Int} (hg : g ≠ 0) (hd : g ∣ a) : (a.fdiv g).natAbs ≤ a.natAbs := by
  obtain ⟨c, rfl⟩ := hd
  rw [Int.fdiv_eq_ediv_of_dvd ⟨c, rfl⟩, Int.mul_ediv_cancel_left _ hg, Int.natAbs_mul]
  exact Nat.le_mul_of_pos_left _ (by omega)
theorem Sm.div {n m : Nat} {a b : Int} (ha : Si n a) (hb : Si m b) (h0 : b ≠ 0) : Sm (max n m) ((a : Rat) / b) := by
  have g0 : (0 : Int) < (Int.gcd a b : Int) := by
    have := Int.gcd_pos_iff (a := a) (b := b); omega
  have h1 : ((Int.gcd a b : Nat) : Int) ∣ a := Int.gcd_dvd_left ..
  have h2 : ((Int.gcd a b : Nat) : Int) ∣ b := Int.gcd_dvd_right ..
  refine ⟨?_, ?_⟩
  · rw [frac_num h0]
    refine (ha.mono (Nat.le_max_left n m)).of_le (fdiv_le (by split <;> omega) ?_)
    split
    · rw [Int.zero_sub]; exact Int.neg_dvd.mpr h1
    · exact h1
  · rw [frac_den h0]
    refine (hb.mono (Nat.le_max_right n m)).of_le (fdiv_le (by split <;> omega) ?_)
    split
    · rw [Int.zero_sub]; exact Int.neg_dvd.mpr h2
    · exact h2
theorem add_eq (p q : Rat) : p + q = ((p.num * q.den + q.num * p.den : Int) : Rat) / ((p.den * q.den : Int) : Rat) := by
  have h1 : ((p.den : Int) : Rat) ≠ 0 := by simpa using p.den_nz
  have h2 : ((q.den : Int) : Rat) ≠ 0 := by simpa using q.den_nz
  have e1 := num_eq p
  have e2 := num_eq q
  rw [Rat.intCast_add, Rat.intCast_mul, Rat.intCast_mul, Rat.intCast_mul]
  grind
theorem sub_eq (p q : Rat) : p - q = ((p.num * q.den - q.num * p.den : Int) : Rat) / ((p.den * q.den : Int) : Rat) := by
  have h1 : ((p.den : Int) : Rat) ≠ 0 := by simpa using p.den_nz
  have h2 : ((q.den : Int) : Rat) ≠ 0 := by simpa using q.den_nz
  have e1 := num_eq p
  have e2 := num_eq q
  rw [Rat.intCast_sub, Rat.intCast_mul, Rat.intCast_mul, Rat.intCast_mul]
  grind
theorem mul_eq (p q : Rat) : p * q = ((p.num * q.num : Int) : Rat) / ((p.den * q.den : Int) : Rat) := by
  have h1 : ((p.den : Int) : Rat) ≠ 0 := by simpa using p.den_nz
  have h2 : ((q.den : Int) : Rat) ≠ 0 := by simpa using q.den_nz
  have e1 := num_eq p
  have e2 := num_eq q
  rw [Rat.intCast_mul, Rat.intCast_mul]
  grind
theorem Sm.add {n m : Nat} {p q : Rat} (h : Sm n p) (h2 : Sm m q) : Sm (n + m + 1) (p + q) := by
  rw [add_eq]
  exact (Sm.div (((h.1.mul h2.2).add (h2.1.mul h.2))) (h.2.mul h2.2) (Int.mul_ne_zero (den_ne p) (den_ne q))).mono (by omega)
theorem Sm.sub {n m : Nat} {p q : Rat} (h : Sm n p) (h2 : Sm m q) : Sm (n + m + 1) (p - q) := by
  rw [sub_eq]
  exact (Sm.div (((h.1.mul h2.2).sub (h2.1.mul h.2))) (h.2.mul h2.2) (Int.mul_ne_zero (den_ne p) (den_ne q))).mono (by omega)
theorem Sm.mul {n m : Nat} {p q : Rat} (h : Sm n p) (h2 : Sm m q) : Sm (n + m) (p * q) := by
  rw [mul_eq]
  exact (Sm.div (h.1.mul h2.1) (h.2.mul h2.2) (Int.mul_ne_zero (den_ne p) (den_ne q))).mono (by omega)
theorem Sm.int {n : Nat} {a : Int} (h : Si n a) : Sm (n + 1) (a : Rat) := ⟨by simpa using h.mono (by omega), by
  have := Nat.two_pow_pos n
  show ((((a : Rat).den : Nat) : Int)).natAbs < 2 ^ (n + 1)
  rw [Rat.den_intCast, Nat.pow_succ]; simp; omega⟩
/-! ### the loop of Euclid -/
def gcdT (i j : Nat) : BS := bT (bin true (vE j) (cE (.int 0)) gtR)
def gcdB (i j : Nat) : SS := parS i j (consA true (vE j) (consA true (bin true (vE i) (vE j) (intR (fun _ j => j ≠ 0) fun i j => .int (i.fmod j))) nilA))
theorem gcd_loop {i j : Nat} (hij : i ≠ j) (k : SK) : ∀ (n : Nat) (a b : Int) (ρ : Rho), ρ[i]? = some (.v (.int a)) → ρ[j]? = some (.v (.int b)) → 0 ≤ a → 0 ≤ b → b.toNat < n →
    k.nx ((ρ.set i (.v (.int (Int.gcd a b)))).set j (.v (.int 0))) → whileN (gcdT i j) (gcdB i j) n ρ k
  | 0, _, _, _, _, _, _, _, h, _ => by omega
  | n + 1, a, b, ρ, h1, h2, ha, hb, hn, h => by
    have hi : i < ρ.length := (List.getElem?_eq_some_iff.mp h1).1
    have hj : j < ρ.length := (List.getElem?_eq_some_iff.mp h2).1
    unfold whileN gcdT gcdB
    by_cases e : 0 < b
    · simp only [cE, vE, bE, rE, fE, mE, bin, nilA, consA, bT, andT, orT, notT, tupE, lstE, allV, allM, okB, intR, addR, asL, asT, asD, eqR, eqD_nn, eqD_bb, eqD_ii, eqD_ss, eqD_tt, eqD_ll, eqD_bi, eqD_ib, eqD_nt, eqD_tn, eqD_it, eqD_ti, eqD_ni, eqD_in, eqDs_nn, eqDs_cc, eqDs_nc, eqDs_cn, cmpD, cmpDs, depD, depDs, isNon, isNR, chainE, tvE, andV, orV, notV, ifE, slEV, ixR, callV, lenC, isiC, tyN, pick, retEV, callP, argD, argDs, seqS, bkS, ctS, exprS, retS, retNS, ifS, evSl, setS, SK.loop, gN, gNil, gCons, gT, asgS, parS, defF, defK, raiseS, absC, divmodC, mmC, stL, itL, itT, itR1, itR2, itE, shL, itZ, itV, forS, evD, methL, appL, clrL, popL, insL, trL, extL, setixS, argS, argSs, callI, callN, hereA, nextA, negE, itS, wipeR, compE, compD, yesT, seqD, listC, tupC, numd, zipd, nxS, frSl, retSl, retSls, retOk, retOks, tryAsS, tryOnlyS, lookB, kinE, xfE, lookF, frzE, isTR, isTB, allC, blsD, gU, raiseIS, at0, at1, at2, at3, h1, h2, e, decide_true, if_true, hi, hj, List.length_set, true_and]
      refine ⟨by omega, ?_⟩
      have e1 : ((ρ.set i (.v (.int b))).set j (.v (.int (a.fmod b))))[i]? = some (.v (.int b)) := by
        rw [List.getElem?_set_ne (Ne.symm hij), List.getElem?_set_self hi]
      have e2 : ((ρ.set i (.v (.int b))).set j (.v (.int (a.fmod b))))[j]? = some (.v (.int (a.fmod b))) := by
        rw [List.getElem?_set_self (by simpa using hj)]
      have m0 := Int.fmod_nonneg_of_pos a e
      have m1 := Int.fmod_lt_of_pos a e
      refine gcd_loop hij k n b (a.fmod b) _ e1 e2 (by omega) m0 (by omega) ?_
      rw [List.set_comm _ _ hij, List.set_set, List.set_comm _ _ (Ne.symm hij), List.set_set]
      have eg : Int.gcd b (a.fmod b) = Int.gcd a b := by
        rw [Int.fmod_eq_emod_of_nonneg _ hb, Int.emod_def, show a - b * (a / b) = a + b * -(a / b) by grind, Int.gcd_add_mul_left_right, Int.gcd_comm]
      rw [eg]
      exact h
    · have : b = 0 := by omega
      subst this
      simp only [cE, vE, bE, rE, fE, mE, bin, nilA, consA, bT, andT, orT, notT, tupE, lstE, allV, allM, okB, intR, addR, asL, asT, asD, eqR, eqD_nn, eqD_bb, eqD_ii, eqD_ss, eqD_tt, eqD_ll, eqD_bi, eqD_ib, eqD_nt, eqD_tn, eqD_it, eqD_ti, eqD_ni, eqD_in, eqDs_nn, eqDs_cc, eqDs_nc, eqDs_cn, cmpD, cmpDs, depD, depDs, isNon, isNR, chainE, tvE, andV, orV, notV, ifE, slEV, ixR, callV, lenC, isiC, tyN, pick, retEV, callP, argD, argDs, seqS, bkS, ctS, exprS, retS, retNS, ifS, evSl, setS, SK.loop, gN, gNil, gCons, gT, asgS, parS, defF, defK, raiseS, absC, divmodC, mmC, stL, itL, itT, itR1, itR2, itE, shL, itZ, itV, forS, evD, methL, appL, clrL, popL, insL, trL, extL, setixS, argS, argSs, callI, callN, hereA, nextA, negE, itS, wipeR, compE, compD, yesT, seqD, listC, tupC, numd, zipd, nxS, frSl, retSl, retSls, retOk, retOks, tryAsS, tryOnlyS, lookB, kinE, xfE, lookF, frzE, isTR, isTB, allC, blsD, gU, raiseIS, at0, at1, at2, at3, h1, h2, Int.lt_irrefl, decide_false]
      simp only [Bool.false_eq_true, if_false]
      have eg : (Int.gcd a 0 : Int) = a := by rw [Int.gcd_zero_right]; exact Int.natAbs_of_nonneg ha
      rw [eg] at h
      have : (ρ.set i (.v (.int a))).set j (.v (.int 0)) = ρ := by
        have hs : ∀ (l : Rho) (n : Nat) (s : Sl), l[n]? = some s → l.set n s = l := fun l n s h => by
          obtain ⟨hn, e⟩ := List.getElem?_eq_some_iff.mp h
          rw [← e]; exact List.set_getElem_self hn
        rw [hs _ _ _ h1, hs _ _ _ h2]
      rw [this] at h
      exact ⟨trivial, trivial, h⟩
theorem gcd_while {i j : Nat} (hij : i ≠ j) (k : SK) (a b : Int) (ρ : Rho) (h1 : ρ[i]? = some (.v (.int a))) (h2 : ρ[j]? = some (.v (.int b))) (ha : 0 ≤ a) (hb : 0 ≤ b)
    (h : k.nx ((ρ.set i (.v (.int (Int.gcd a b)))).set j (.v (.int 0)))) : whileS (gcdT i j) (gcdB i j) ρ k := ⟨b.toNat + 1, gcd_loop hij k _ a b ρ h1 h2 ha hb (by omega) h⟩
end VS
set_option Elab.async false
set_option linter.all false
set_option maxRecDepth 100000
set_option maxHeartbeats 4000000
/-! VM2: what the defs of fractions promise, and that they do it. Own work. -/
namespace VS
open PySem PySem.Spec PyProof.Rows
/-- a fraction -/
abbrev frD (q : Rat) : D := .tup [.int q.num, .int (q.den : Int)]
theorem divOk_of {a g : Int} {n : Nat} (h : Si n g) (hn : n ≤ 8999) (h0 : g ≠ 0) : DivOk a g := h0
theorem gcd_si {a b : Int} {n : Nat} (h : Si n b) (hb : b ≠ 0) : Si n (Int.gcd a b : Int) := by
  refine h.of_le ?_
  have h1 : Int.gcd a b ∣ b.natAbs := Int.gcd_dvd_natAbs_right ..
  have := Nat.le_of_dvd (by omega) h1
  simpa using this
theorem gcd_pos {a b : Int} (hb : b ≠ 0) : (0 : Int) < (Int.gcd a b : Int) := by
  have := Int.gcd_pos_iff (a := a) (b := b); omega
theorem gcd_nat {a b : Int} : Nat.gcd a.natAbs b.natAbs = Int.gcd a b := rfl
end VS
set_option Elab.async false
set_option linter.all false
set_option maxRecDepth 100000
set_option maxHeartbeats 4000000
/-! VM3: what the laws' own common defs promise, and that they do it. Own work. -/
namespace VS
open PySem PySem.Spec PyProof.Rows
local macro_rules
  | `(tactic| simp! [$as,*]) => `(tactic| simp [$as,*, cE, vE, bE, rE, fE, mE, bin, nilA, consA, bT, andT, orT, notT, tupE, lstE, allV, allM, okB, intR, addR, asL, asT, asD, eqR, eqD_nn, eqD_bb, eqD_ii, eqD_ss, eqD_tt, eqD_ll, eqD_bi, eqD_ib, eqD_nt, eqD_tn, eqD_it, eqD_ti, eqD_ni, eqD_in, eqDs_nn, eqDs_cc, eqDs_nc, eqDs_cn, cmpD, cmpDs, depD, depDs, isNon, isNR, chainE, tvE, andV, orV, notV, ifE, slEV, ixR, callV, lenC, isiC, tyN, pick, retEV, callP, argD, argDs, seqS, bkS, ctS, exprS, retS, retNS, ifS, evSl, setS, SK.loop, gN, gNil, gCons, gT, asgS, parS, defF, defK, raiseS, absC, divmodC, mmC, stL, itL, itT, itR1, itR2, itE, shL, itZ, itV, forS, evD, methL, appL, clrL, popL, insL, trL, extL, setixS, argS, argSs, callI, callN, hereA, nextA, negE, itS, wipeR, compE, compD, yesT, seqD, listC, tupC, numd, zipd, nxS, frSl, retSl, retSls, retOk, retOks, tryAsS, tryOnlyS, lookB, kinE, xfE, lookF, frzE, isTR, isTB, allC, blsD, gU, raiseIS, at0, at1, at2, at3])
local macro_rules
  | `(tactic| simp! [$as,*] at $l:ident) => `(tactic| simp [$as,*, cE, vE, bE, rE, fE, mE, bin, nilA, consA, bT, andT, orT, notT, tupE, lstE, allV, allM, okB, intR, addR, asL, asT, asD, eqR, eqD_nn, eqD_bb, eqD_ii, eqD_ss, eqD_tt, eqD_ll, eqD_bi, eqD_ib, eqD_nt, eqD_tn, eqD_it, eqD_ti, eqD_ni, eqD_in, eqDs_nn, eqDs_cc, eqDs_nc, eqDs_cn, cmpD, cmpDs, depD, depDs, isNon, isNR, chainE, tvE, andV, orV, notV, ifE, slEV, ixR, callV, lenC, isiC, tyN, pick, retEV, callP, argD, argDs, seqS, bkS, ctS, exprS, retS, retNS, ifS, evSl, setS, SK.loop, gN, gNil, gCons, gT, asgS, parS, defF, defK, raiseS, absC, divmodC, mmC, stL, itL, itT, itR1, itR2, itE, shL, itZ, itV, forS, evD, methL, appL, clrL, popL, insL, trL, extL, setixS, argS, argSs, callI, callN, hereA, nextA, negE, itS, wipeR, compE, compD, yesT, seqD, listC, tupC, numd, zipd, nxS, frSl, retSl, retSls, retOk, retOks, tryAsS, tryOnlyS, lookB, kinE, xfE, lookF, frzE, isTR, isTB, allC, blsD, gU, raiseIS, at0, at1, at2, at3] at $l:ident)
theorem loop_go {g : GS} {f : SS} (k : SK) (ds0 : List D) (I : Nat → Rho → Prop) (step : ∀ (i : Nat) (d : D) (ρ : Rho) (K' : Rho → Prop), ds0[i]? = some d → I i ρ → (∀ ρ', I (i + 1) ρ' → K' ρ') → g (.v d) ρ (fun ρ1 => f ρ1 (k.loop K')))
    (done : ∀ ρ, I ds0.length ρ → k.nx ρ) : ∀ (ds : List D) (i : Nat) (ρ : Rho), ds0.drop i = ds → i ≤ ds0.length → I i ρ → loopS g f ds ρ k
  | [], i, ρ, e, hi, h => by
    have : i = ds0.length := by
      have := congrArg List.length e
      simp at this; omega
    subst this
    exact done ρ h
  | d :: ds, i, ρ, e, hi, h => by
    have hl : i < ds0.length := by
      have := congrArg List.length e
      simp at this; omega
    have e1 : ds0[i]? = some d := by
      have := congrArg (fun l => l[0]?) e
      simpa using this
    have e2 : ds0.drop (i + 1) = ds := by
      have := congrArg List.tail e
      simpa using this
    exact step i d ρ _ e1 h fun ρ' h' => loop_go k ds0 I step done ds (i + 1) ρ' e2 (by omega) h'
/-- a loop by its invariant -/
theorem loop_inv {g : GS} {f : SS} {k : SK} {ds : List D} {ρ : Rho} (I : Nat → Rho → Prop) (h0 : I 0 ρ) (step : ∀ (i : Nat) (d : D) (ρ : Rho) (K' : Rho → Prop), ds[i]? = some d → I i ρ → (∀ ρ', I (i + 1) ρ' → K' ρ') → g (.v d) ρ (fun ρ1 => f ρ1 (k.loop K')))
    (done : ∀ ρ, I ds.length ρ → k.nx ρ) : loopS g f ds ρ k := loop_go k ds I step done ds 0 ρ rfl (Nat.zero_le _) h0
theorem rngD_get {lo : Int} {n i : Nat} {d : D} (h : (rngD lo n)[i]? = some d) : i < n ∧ d = .int (lo + (i : Nat)) := by
  unfold rngD at h
  rw [List.getElem?_map] at h
  by_cases hi : i < n
  · rw [List.getElem?_range hi] at h
    exact ⟨hi, (Option.some.inj h).symm⟩
  · rw [List.getElem?_eq_none (by simpa using hi)] at h
    cases h
theorem Si.lit {n : Nat} {a : Int} (h : a.natAbs < 2 ^ n := by decide) : Si n a := h
/-! ### cells, boxes -/
abbrev bigB : Nat := 1100000
/-- the script -/
def isScript (ds : List D) : Prop := ∃ ns : List Int, ds = ns.map .int ∧ ns.length ≤ 63 ∧ ∀ n ∈ ns, Si bigB n
def F__law_cell : FS := fun ss K _ => match ss with
  | [.v (.lst _ ds), .v (.int k)] => (isScript ds ∧ 0 ≤ k ∧ k < 2 ^ 40) ∧ ∀ n, Si bigB n → K (.v (.int n)) []
  | _ => False
def F__law_mix : FS := fun ss K _ => match ss with
  | [.v (.int c), .v (.int k)] => (Si bigB c ∧ 0 ≤ k ∧ k < 2 ^ 40) ∧ ∀ n, 0 ≤ n → n < 2147483563 → K (.v (.int n)) []
  | _ => False
def F__law_box : FS := fun ss K _ => match ss with
  | [.v (.lst _ ds), .v (.int k)] => (isScript ds ∧ 0 ≤ k ∧ k < 2 ^ 40) ∧ ∀ n, K (.m (.l [.int n])) []
  | _ => False
def F__law_take : FS := fun ss K _ => match ss with
  | [.l [.int n], .v (.int m)] => (0 < m ∧ Si 8000 m) ∧ ∀ d n', 0 ≤ d → d < m → K (.v (.int d)) [.l [.int n']]
  | _ => False
def F__law_fit : FS := fun ss K E => match ss with
  | [.v (.int a), .v (.int b)] => (b ≠ 0 ∧ Si 8100 b) ∧ K (.v (frD ((a : Rat) / (b : Rat)))) []
  | _ => False
def sf__law_cell : SS := (seqS (ifS (bT (bin true (vE 1) (callV lenC (consA true (vE 0) nilA)) ltR)) (retS (bin true (vE 0) (vE 1) ixR)) nxS)
  (retS (bin true (bin true (cE (.int 6151)) (vE 1) (intR MulOk fun i j => .int (i * j))) (cE (.int 29)) addR)))
def sf__law_mix : SS := (seqS (setS 2 true (bin true (bin true (bin true (vE 0) (cE (.int 1)) addR) (cE (.int 40692)) (intR MulOk fun i j => .int (i * j))) (bin true (cE (.int 104729)) (vE 1) (intR MulOk fun i j => .int (i * j))) addR))
  (seqS (setS 2 true (bin true (bin true (bin true (vE 2) (vE 2) (intR MulOk fun i j => .int (i * j))) (cE (.int 2147483399)) (intR (fun _ j => j ≠ 0) fun i j => .int (i.fmod j))) (vE 1) addR))
  (retS (bin true (bin true (vE 2) (bin true (vE 2) (cE (.int 31)) addR) (intR MulOk fun i j => .int (i * j))) (cE (.int 2147483563)) (intR (fun _ j => j ≠ 0) fun i j => .int (i.fmod j))))))
def sf__law_box : SS := (seqS (setS 2 true (callP F__law_cell [] (consA true (vE 0) (consA true (vE 1) nilA))))
  (seqS (ifS (bT (bin true (bin true (vE 2) (cE (.int 2)) (intR (fun _ j => j ≠ 0) fun i j => .int (i.fmod j))) (cE (.int 0)) (eqR false))) (retS (lstE (consA true (bin true (vE 2) (cE (.int 2)) (intR DivOk fun i j => .int (i.fdiv j))) nilA))) nxS)
  (seqS (setS 3 true (cE (.int 0)))
  (seqS (forS (itR1 (consA true (cE (.int 16)) nilA)) (gN 4 true) (setS 3 true (bin true (bin true (vE 3) (cE (.int 2147483647)) (intR MulOk fun i j => .int (i * j))) (callP F__law_mix [] (consA true (vE 2) (consA true (vE 4) nilA))) addR)))
  (retS (lstE (consA true (vE 3) nilA)))))))
def sf__law_take : SS := (seqS (asgS (gT 2 (gCons (gN 2 true) (gCons (gN 3 true) gNil))) (callV divmodC (consA true (bin true (rE 0) (cE (.int 0)) ixR) (consA true (vE 1) nilA))))
  (seqS (setixS true 0 (vE 2) (cE (.int 0)))
  (retS (vE 3))))
def sf__law_fit : SS := (seqS (parS 2 3 (consA true (callV absC (consA true (vE 0) nilA)) (consA true (callV absC (consA true (vE 1) nilA)) nilA)))
  (seqS (whileS (bT (bin true (vE 3) (cE (.int 0)) gtR)) (parS 2 3 (consA true (vE 3) (consA true (bin true (vE 2) (vE 3) (intR (fun _ j => j ≠ 0) fun i j => .int (i.fmod j))) nilA))))
  (seqS (ifS (bT (bin true (vE 1) (cE (.int 0)) ltR)) (setS 2 true (bin true (cE (.int 0)) (vE 2) (intR (fun _ _ => True) fun i j => .int (i - j)))) nxS)
  (retS (tupE (consA true (bin true (vE 0) (vE 2) (intR DivOk fun i j => .int (i.fdiv j))) (consA true (bin true (vE 1) (vE 2) (intR DivOk fun i j => .int (i.fdiv j))) nilA)))))))
theorem m__law_cell : MonoF F__law_cell := fun ss K K' E E' hk he h => by
  unfold F__law_cell at h ⊢
  grind
theorem m__law_mix : MonoF F__law_mix := fun ss K K' E E' hk he h => by
  unfold F__law_mix at h ⊢
  grind
theorem m__law_box : MonoF F__law_box := fun ss K K' E E' hk he h => by
  unfold F__law_box at h ⊢
  grind
theorem m__law_take : MonoF F__law_take := fun ss K K' E E' hk he h => by
  unfold F__law_take at h ⊢
  grind
theorem m__law_fit : MonoF F__law_fit := fun ss K K' E E' hk he h => by
  unfold F__law_fit at h ⊢
  grind
theorem k40 {k : Int} (h : 0 ≤ k) (h2 : k < 2 ^ 40) : Si 41 k := by unfold Si; omega
theorem to__law_cell : ∀ ss K E, F__law_cell ss K E → defF [false, false] 2 sf__law_cell ss K E := fun ss K E h => by
  unfold F__law_cell at h
  split at h
  · rename_i st ds k
    obtain ⟨⟨⟨ns, rfl, hl, hs⟩, h0, h1⟩, q⟩ := h
    simp! [sf__law_cell]
    split
    · rename_i hk
      have hn : k.toNat < ns.length := by omega
      have e : L2.atI (ns.map D.int) k = some (.int (ns[k.toNat])) := by
        simp [L2.atI, L2.ixN, h0, hk]
      rw [e]
      exact ⟨rfl, q _ (hs _ (List.getElem_mem hn))⟩
    · refine ⟨.of (Si.lit (n := 13)) (k40 h0 h1) (by decide), q _ ?_⟩
      exact (((Si.lit (n := 13) (a := 6151)).mul (k40 h0 h1)).add (Si.lit (n := 5) (a := 29))).mono (by decide)
  · exact h.elim
theorem to__law_mix : ∀ ss K E, F__law_mix ss K E → defF [false, false] 3 sf__law_mix ss K E := fun ss K E h => by
  unfold F__law_mix at h
  split at h
  · rename_i c k
    obtain ⟨⟨hc, h0, h1⟩, q⟩ := h
    simp! [sf__law_mix]
    have s1 : Si (bigB + 60) (c + 1) := (hc.add (Si.lit (n := 1) (a := 1))).mono (by decide)
    have s2 : Si (bigB + 80) ((c + 1) * 40692) := (s1.mul (Si.lit (n := 16) (a := 40692))).mono (by decide)
    have s3 : Si (bigB + 90) ((c + 1) * 40692 + 104729 * k) := (s2.add ((Si.lit (n := 17) (a := 104729)).mul (k40 h0 h1))).mono (by decide)
    have s4 : Si 50 ((((c + 1) * 40692 + 104729 * k) * ((c + 1) * 40692 + 104729 * k)).fmod 2147483399 + k) := by
      have a0 := Int.fmod_nonneg_of_pos (((c + 1) * 40692 + 104729 * k) * ((c + 1) * 40692 + 104729 * k)) (b := 2147483399) (by decide)
      have a1 := Int.fmod_lt_of_pos (((c + 1) * 40692 + 104729 * k) * ((c + 1) * 40692 + 104729 * k)) (b := 2147483399) (by decide)
      unfold Si; omega
    refine ⟨.of s1 (Si.lit (n := 16)) (by decide), .of (Si.lit (n := 17)) (k40 h0 h1) (by decide), .of s3 s3 (by decide), .of s4 (s4.add (Si.lit (n := 5))) (by decide), q _ (Int.fmod_nonneg_of_pos _ (by decide)) (Int.fmod_lt_of_pos _ (by decide))⟩
  · exact h.elim
theorem to__law_take : ∀ ss K E, F__law_take ss K E → defF [true, false] 4 sf__law_take ss K E := fun ss K E h => by
  unfold F__law_take at h
  split at h
  · rename_i n m
    obtain ⟨⟨h0, h1⟩, q⟩ := h
    simp! [sf__law_take, L2.ixN]
    exact ⟨divOk_of h1 (by decide) (by omega), q _ _ (Int.fmod_nonneg_of_pos _ h0) (Int.fmod_lt_of_pos _ h0)⟩
  · exact h.elim
theorem to__law_box : ∀ ss K E, F__law_box ss K E → defF [false, false] 5 sf__law_box ss K E := fun ss K E h => by
  unfold F__law_box at h
  split at h
  · rename_i st ds k
    obtain ⟨⟨hs, h0, h1⟩, q⟩ := h
    simp! [sf__law_box, F__law_cell]
    refine ⟨⟨hs, h0, h1⟩, fun n hn => ?_⟩
    split
    · exact ⟨divOk_of (n := 10) (Si.lit (a := 2)) (by decide) (by decide), q _⟩
    · refine loop_inv (fun i ρ => ∃ x y, Si (40 * i + 40) x ∧ ρ = [.v (.lst st ds), .v (.int k), .v (.int n), .v (.int x), y]) ⟨0, .no, Si.lit, rfl⟩ ?_ ?_
      · rintro i d ρ K' hd ⟨x, y, hx, rfl⟩ next
        obtain ⟨hi, rfl⟩ := rngD_get hd
        simp! [F__law_mix]
        refine ⟨.of hx (Si.lit (n := 31)) (by omega), ⟨hn, by omega⟩, fun m m0 m1 => next _ ⟨_, _, ?_, rfl⟩⟩
        refine ((hx.mul (Si.lit (n := 31) (a := 2147483647))).add (m := 31) (b := m) (by unfold Si; omega)).mono (by omega)
      · rintro ρ ⟨x, y, hx, rfl⟩
        simp! [cE]
        exact q _
  · exact h.elim
theorem to__law_fit : ∀ ss K E, F__law_fit ss K E → defF [false, false] 4 sf__law_fit ss K E := fun ss K E h => by
  unfold F__law_fit at h
  split at h
  · rename_i a b
    obtain ⟨⟨hb, h1⟩, h2⟩ := h
    refine ⟨rfl, ?_⟩
    have ea : (if a < 0 then -a else a) = (a.natAbs : Int) := by split <;> omega
    have eb : (if b < 0 then -b else b) = (b.natAbs : Int) := by split <;> omega
    unfold sf__law_fit
    simp only [seqS, parS, consA, nilA, callV, vE, absC, List.length_cons, List.length_nil, List.replicate, List.cons_append, List.nil_append, List.getElem?_cons_zero, List.getElem?_cons_succ, evSl, List.set, okB, ea, eb, true_and]
    refine ⟨by decide, by decide, ?_⟩
    refine gcd_while (i := 2) (j := 3) (by decide) _ (a.natAbs : Int) (b.natAbs : Int) _ rfl rfl (by omega) (by omega) ?_
    simp! [gcd_nat]
    unfold frD at h2
    rw [frac_num hb, frac_den hb] at h2
    have g0 := gcd_pos (a := a) hb
    have gs := gcd_si (a := a) h1 hb
    split
    · rename_i hn
      rw [if_pos hn, Int.zero_sub] at h2
      exact ⟨divOk_of gs.neg (by decide) (by omega), divOk_of gs.neg (by decide) (by omega), h2⟩
    · rename_i hn
      rw [if_neg hn] at h2
      exact ⟨divOk_of gs (by decide) (by omega), divOk_of gs (by decide) (by omega), h2⟩
  · exact h.elim
end VS
set_option Elab.async false
set_option linter.all false
set_option maxRecDepth 100000
set_option maxHeartbeats 4000000
/-! VM4: how two bodies part; drawn bodies. Own work. -/
set_option Elab.async false
set_option linter.all false
set_option maxRecDepth 100000
set_option maxHeartbeats 4000000
/-! VM5: push and might; two drawn bodies. Own work. -/
set_option Elab.async false
set_option linter.all false
set_option maxRecDepth 100000
set_option maxHeartbeats 4000000
/-! VM6: bodies with fractions. Own work. -/
set_option Elab.async false
set_option linter.all false
set_option maxRecDepth 100000
set_option maxHeartbeats 4000000
/-! VM7: bodies seen from a speed, mirrored. Own work. -/
namespace VS
theorem Sm.n {k n : Nat} {q : Rat} (h : Sm k q) (hk : k ≤ n := by decide) : Si n q.num := Si.mono h.1 hk
theorem Sm.d {k n : Nat} {q : Rat} (h : Sm k q) (hk : k ≤ n := by decide) : Si n q.den := Si.mono h.2 hk
theorem Sm.neg {k : Nat} {q : Rat} (h : Sm k q) : Sm k (-q) := ⟨by rw [Rat.neg_num]; exact h.1.neg, by rw [Rat.neg_den]; exact h.2⟩
end VS
set_option Elab.async false
set_option linter.all false
set_option maxRecDepth 100000
set_option maxHeartbeats 4000000
/-! K07: refusals made. Own work. -/
namespace VS
open PySem PySem.Spec PyProof.Rows
open L2 (V Hp Cx WX)
local macro_rules
  | `(tactic| simp! [$as,*]) => `(tactic| simp [$as,*, cE, vE, bE, rE, fE, mE, bin, nilA, consA, bT, andT, orT, notT, tupE, lstE, allV, allM, okB, intR, addR, asL, asT, asD, eqR, eqD_nn, eqD_bb, eqD_ii, eqD_ss, eqD_tt, eqD_ll, eqD_bi, eqD_ib, eqD_nt, eqD_tn, eqD_it, eqD_ti, eqD_ni, eqD_in, eqDs_nn, eqDs_cc, eqDs_nc, eqDs_cn, cmpD, cmpDs, depD, depDs, isNon, isNR, chainE, tvE, andV, orV, notV, ifE, slEV, ixR, callV, lenC, isiC, tyN, pick, retEV, callP, argD, argDs, seqS, bkS, ctS, exprS, retS, retNS, ifS, evSl, setS, SK.loop, gN, gNil, gCons, gT, asgS, parS, defF, defK, raiseS, absC, divmodC, mmC, stL, itL, itT, itR1, itR2, itE, shL, itZ, itV, forS, evD, methL, appL, clrL, popL, insL, trL, extL, setixS, argS, argSs, callI, callN, hereA, nextA, negE, itS, wipeR, compE, compD, yesT, seqD, listC, tupC, numd, zipd, nxS, frSl, retSl, retSls, retOk, retOks, tryAsS, tryOnlyS, lookB, kinE, xfE, lookF, frzE, isTR, isTB, allC, blsD, gU, raiseIS, at0, at1, at2, at3, lrE, sortC, intC, intsD, slE, intO, cutD, eqXR, slX, addT, repT, compX, compDx, inR, cmpO, heldR, appT, lrE, sortC, intC, intsD, slE, intO, cutD, eqXR, slX, addT, repT, compX, compDx, neYR, lrevE, mkE, mkIE, isvE, xvE])
local macro_rules
  | `(tactic| simp! [$as,*] at $l:ident) => `(tactic| simp [$as,*, cE, vE, bE, rE, fE, mE, bin, nilA, consA, bT, andT, orT, notT, tupE, lstE, allV, allM, okB, intR, addR, asL, asT, asD, eqR, eqD_nn, eqD_bb, eqD_ii, eqD_ss, eqD_tt, eqD_ll, eqD_bi, eqD_ib, eqD_nt, eqD_tn, eqD_it, eqD_ti, eqD_ni, eqD_in, eqDs_nn, eqDs_cc, eqDs_nc, eqDs_cn, cmpD, cmpDs, depD, depDs, isNon, isNR, chainE, tvE, andV, orV, notV, ifE, slEV, ixR, callV, lenC, isiC, tyN, pick, retEV, callP, argD, argDs, seqS, bkS, ctS, exprS, retS, retNS, ifS, evSl, setS, SK.loop, gN, gNil, gCons, gT, asgS, parS, defF, defK, raiseS, absC, divmodC, mmC, stL, itL, itT, itR1, itR2, itE, shL, itZ, itV, forS, evD, methL, appL, clrL, popL, insL, trL, extL, setixS, argS, argSs, callI, callN, hereA, nextA, negE, itS, wipeR, compE, compD, yesT, seqD, listC, tupC, numd, zipd, nxS, frSl, retSl, retSls, retOk, retOks, tryAsS, tryOnlyS, lookB, kinE, xfE, lookF, frzE, isTR, isTB, allC, blsD, gU, raiseIS, at0, at1, at2, at3, lrE, sortC, intC, intsD, slE, intO, cutD, eqXR, slX, addT, repT, compX, compDx, inR, cmpO, heldR, appT, lrE, sortC, intC, intsD, slE, intO, cutD, eqXR, slX, addT, repT, compX, compDx, neYR, lrevE, mkE, mkIE, isvE, xvE] at $l:ident)
theorem ofS_inj {a b : String} : (Str.ofString a = Str.ofString b) ↔ (a = b) := by
  refine ⟨fun h => ?_, fun h => by rw [h]⟩
  rw [Str.ofString_eq_toList, Str.ofString_eq_toList] at h
  have h1 : (a.toList.map Char.toNat).toArray = (b.toList.map Char.toNat).toArray := by injection h
  have h2 : a.toList.map Char.toNat = b.toList.map Char.toNat := by simpa using h1
  have h3 : a.toList = b.toList := by
    have inj : ∀ c d : Char, c.toNat = d.toNat → c = d := fun c d e => Char.ext (UInt32.toNat_inj.mp e)
    exact List.map_inj_right inj |>.mp h2
  exact String.toList_inj.mp h3
/-- the exception of a kind -/
def exD (k : Nat) (i j : Int) (q : Rat) : D := match k with
  | 0 => .ex "NoNumber" [] []
  | 1 => .ex "NoBody" [] []
  | 2 => .ex "NoMoment" [] []
  | 3 => .ex "NoShare" [] []
  | 4 => .ex "TooMany" [] []
  | 5 => .ex "NoRow" [] []
  | 6 => .ex "NoRun" [] []
  | 7 => .ex "NoBox" [] []
  | 8 => .ex "NoWorld" ["at"] [.int i]
  | 9 => .ex "NoText" ["line"] [.int j]
  | 10 => .ex "Overlap" ["other", "one"] [.int j, .int i]
  | _ => .ex "Crowd" ["numbers", "place", "moment"] [.tup [.int i, .int (i + 1), .int (i + 2)], .tup [.int 7, .int 2], frD q]
def mksD (k : Nat) : List D := (List.range 12).map fun j => .bl (decide (j = k))
def F__law_made : FS := fun ss K _ => ∃ (k : Nat) (i j : Int) (q : Rat), ss = [.v (.int (k : Nat)), .v (.int i), .v (.int j), .v (frD q)] ∧ k < 12 ∧ K (.v (exD k i j q)) []
theorem m__law_made : MonoF F__law_made := fun ss K K' E E' hk he ⟨k, i, j, q, h1, h2, h3⟩ => ⟨k, i, j, q, h1, h2, hk _ _ h3⟩
def F__law_marks : FS := fun ss K _ => ∃ (k : Nat) (i j : Int) (q : Rat), ss = [.v (exD k i j q)] ∧ k < 12 ∧ K (.m (.l (mksD k))) []
theorem m__law_marks : MonoF F__law_marks := fun ss K K' E E' hk he ⟨k, i, j, q, h1, h2, h3⟩ => ⟨k, i, j, q, h1, h2, hk _ _ h3⟩
def F__law_keeps : FS := fun ss K _ => ∃ (k : Nat) (i j : Int) (q : Rat), ss = [.v (exD k i j q), .v (.int (k : Nat)), .v (.int i), .v (.int j), .v (frD q)] ∧ k < 12 ∧ K (.v (.bl true)) []
theorem m__law_keeps : MonoF F__law_keeps := fun ss K K' E E' hk he ⟨k, i, j, q, h1, h2, h3⟩ => ⟨k, i, j, q, h1, h2, hk _ _ h3⟩
def sf__law_marks : SS := (seqS (setS 1 true (lstE (consA true (isvE [("Crowd", false), ("NoBody", false), ("NoBox", false), ("NoMoment", false), ("NoNumber", true), ("NoRow", false), ("NoRun", false), ("NoShare", false), ("NoText", false), ("NoWorld", false), ("Overlap", false), ("TooMany", false)] 0) (consA true (isvE [("Crowd", false), ("NoBody", true), ("NoBox", false), ("NoMoment", false), ("NoNumber", false), ("NoRow", false), ("NoRun", false), ("NoShare", false), ("NoText", false), ("NoWorld", false), ("Overlap", false), ("TooMany", false)] 0) (consA true (isvE [("Crowd", false), ("NoBody", false), ("NoBox", false), ("NoMoment", true), ("NoNumber", false), ("NoRow", false), ("NoRun", false), ("NoShare", false), ("NoText", false), ("NoWorld", false), ("Overlap", false), ("TooMany", false)] 0) (consA true (isvE [("Crowd", false), ("NoBody", false), ("NoBox", false), ("NoMoment", false), ("NoNumber", false), ("NoRow", false), ("NoRun", false), ("NoShare", true), ("NoText", false), ("NoWorld", false), ("Overlap", false), ("TooMany", false)] 0) nilA))))))
  (seqS (setS 1 true (bin true (vE 1) (lstE (consA true (isvE [("Crowd", false), ("NoBody", false), ("NoBox", false), ("NoMoment", false), ("NoNumber", false), ("NoRow", false), ("NoRun", false), ("NoShare", false), ("NoText", false), ("NoWorld", false), ("Overlap", false), ("TooMany", true)] 0) (consA true (isvE [("Crowd", false), ("NoBody", false), ("NoBox", false), ("NoMoment", false), ("NoNumber", false), ("NoRow", true), ("NoRun", false), ("NoShare", false), ("NoText", false), ("NoWorld", false), ("Overlap", false), ("TooMany", false)] 0) (consA true (isvE [("Crowd", false), ("NoBody", false), ("NoBox", false), ("NoMoment", false), ("NoNumber", false), ("NoRow", false), ("NoRun", true), ("NoShare", false), ("NoText", false), ("NoWorld", false), ("Overlap", false), ("TooMany", false)] 0) (consA true (isvE [("Crowd", false), ("NoBody", false), ("NoBox", true), ("NoMoment", false), ("NoNumber", false), ("NoRow", false), ("NoRun", false), ("NoShare", false), ("NoText", false), ("NoWorld", false), ("Overlap", false), ("TooMany", false)] 0) nilA))))) addR))
  (retS (bin true (vE 1) (lstE (consA true (isvE [("Crowd", false), ("NoBody", false), ("NoBox", false), ("NoMoment", false), ("NoNumber", false), ("NoRow", false), ("NoRun", false), ("NoShare", false), ("NoText", false), ("NoWorld", true), ("Overlap", false), ("TooMany", false)] 0) (consA true (isvE [("Crowd", false), ("NoBody", false), ("NoBox", false), ("NoMoment", false), ("NoNumber", false), ("NoRow", false), ("NoRun", false), ("NoShare", false), ("NoText", true), ("NoWorld", false), ("Overlap", false), ("TooMany", false)] 0) (consA true (isvE [("Crowd", false), ("NoBody", false), ("NoBox", false), ("NoMoment", false), ("NoNumber", false), ("NoRow", false), ("NoRun", false), ("NoShare", false), ("NoText", false), ("NoWorld", false), ("Overlap", true), ("TooMany", false)] 0) (consA true (isvE [("Crowd", true), ("NoBody", false), ("NoBox", false), ("NoMoment", false), ("NoNumber", false), ("NoRow", false), ("NoRun", false), ("NoShare", false), ("NoText", false), ("NoWorld", false), ("Overlap", false), ("TooMany", false)] 0) nilA))))) addR))))
def sf__law_made : SS := (seqS (ifS (bT (bin true (vE 0) (cE (.int 4)) ltR)) (retS (bin true (lstE (consA true (mkE "NoNumber") (consA true (mkE "NoBody") (consA true (mkE "NoMoment") (consA true (mkE "NoShare") nilA))))) (vE 0) ixR)) nxS)
  (seqS (ifS (bT (bin true (vE 0) (cE (.int 8)) ltR)) (retS (bin true (lstE (consA true (mkE "TooMany") (consA true (mkE "NoRow") (consA true (mkE "NoRun") (consA true (mkE "NoBox") nilA))))) (bin true (vE 0) (cE (.int 4)) (intR (fun _ _ => True) fun i j => .int (i - j))) ixR)) nxS)
  (retS (bin true (lstE (consA true (mkIE "NoWorld" ["at"] (consA true (vE 1) nilA)) (consA true (mkIE "NoText" ["line"] (consA true (vE 2) nilA)) (consA true (mkIE "Overlap" ["one", "other"] (consA true (vE 1) (consA true (vE 2) nilA))) (consA true (mkIE "Crowd" ["moment", "place", "numbers"] (consA true (vE 3) (consA true (tupE (consA true (cE (.int 7)) (consA true (cE (.int 2)) nilA))) (consA true (tupE (consA true (vE 1) (consA true (bin true (vE 1) (cE (.int 1)) addR) (consA true (bin true (vE 1) (cE (.int 2)) addR) nilA)))) nilA)))) nilA))))) (bin true (vE 0) (cE (.int 8)) (intR (fun _ _ => True) fun i j => .int (i - j))) ixR))))
def sf__law_keeps : SS := (seqS (ifS (bT (bin true (vE 1) (cE (.int 8)) (eqR false))) (retS (bin true (xvE "NoWorld" "at" 0) (vE 2) (eqR false))) nxS)
  (seqS (ifS (bT (bin true (vE 1) (cE (.int 9)) (eqR false))) (retS (bin true (xvE "NoText" "line" 0) (vE 3) (eqR false))) nxS)
  (seqS (ifS (bT (bin true (vE 1) (cE (.int 10)) (eqR false))) (retS (bin true (lstE (consA true (xvE "Overlap" "one" 0) (consA true (xvE "Overlap" "other" 0) nilA))) (lstE (consA true (vE 2) (consA true (vE 3) nilA))) (eqR false))) nxS)
  (seqS (ifS (bT (bin true (vE 1) (cE (.int 11)) (eqR false))) (retS (bin true (lstE (consA true (xvE "Crowd" "moment" 0) (consA true (xvE "Crowd" "place" 0) (consA true (xvE "Crowd" "numbers" 0) nilA)))) (lstE (consA true (vE 4) (consA true (tupE (consA true (cE (.int 7)) (consA true (cE (.int 2)) nilA))) (consA true (tupE (consA true (vE 2) (consA true (bin true (vE 2) (cE (.int 1)) addR) (consA true (bin true (vE 2) (cE (.int 2)) addR) nilA)))) nilA)))) (eqR false))) nxS)
  (retS (cE (.bl true)))))))
def sf_law_r1 : SS := (ifS (orT (bT (bin true (callP F__law_marks [] (consA true (vE 7) nilA)) (compE [8] (itR1 (consA true (cE (.int 12)) nilA)) (gN 8 true) yesT (bin true (vE 8) (vE 3) (eqR false))) (eqR true))) (notT (bT (callP F__law_keeps [] (consA true (vE 7) (consA true (vE 3) (consA true (vE 4) (consA true (vE 5) (consA true (vE 6) nilA))))))))) (retS (cE (.bl false))) nxS)
def sf_law_r2 : SS := (seqS (ifS (orT (notT (bT (isvE [("Crowd", true), ("NoBody", true), ("NoBox", true), ("NoMoment", true), ("NoNumber", true), ("NoRow", true), ("NoRun", true), ("NoShare", true), ("NoText", true), ("NoWorld", true), ("Overlap", true), ("TooMany", true)] 7))) (notT (bT (isvE [("Crowd", true), ("NoBody", true), ("NoBox", true), ("NoMoment", true), ("NoNumber", true), ("NoRow", true), ("NoRun", true), ("NoShare", true), ("NoText", true), ("NoWorld", true), ("Overlap", true), ("TooMany", true)] 7)))) (retS (cE (.bl false))) nxS)
  sf_law_r1)
def sf_law_r3 : SS := (seqS (setS 7 true (callP F__law_made [] (consA true (vE 3) (consA true (vE 4) (consA true (vE 5) (consA true (vE 6) nilA))))))
  sf_law_r2)
def sf_law : SS := (seqS (setS 1 false (callP F__law_box [] (consA true (vE 0) (consA true (cE (.int 0)) nilA))))
  (seqS (forS (itR1 (consA true (cE (.int 12)) nilA)) (gN 2 true) (seqS (setS 3 true (bin true (bin true (callI F__law_take 1 (hereA 1 (consA true (cE (.int 12)) nilA))) (vE 2) addR) (cE (.int 12)) (intR (fun _ j => j ≠ 0) fun i j => .int (i.fmod j))))
  (seqS (parS 4 5 (consA false (callI F__law_take 1 (hereA 1 (consA true (cE (.int 100)) nilA))) (consA true (callI F__law_take 1 (hereA 1 (consA true (bin true (cE (.int 10)) (cE (.int 6)) (intR L2.CPow fun i j => .int (i ^ j.toNat))) nilA))) nilA)))
  (seqS (setS 6 true (callP F__law_fit [] (consA false (bin true (callI F__law_take 1 (hereA 1 (consA true (cE (.int 100)) nilA))) (cE (.int 50)) (intR (fun _ _ => True) fun i j => .int (i - j))) (consA true (bin false (cE (.int 1)) (callI F__law_take 1 (hereA 1 (consA true (cE (.int 9)) nilA))) addR) nilA))))
  sf_law_r3))))
  (retS (cE (.bl true)))))
theorem to__law_made : ∀ ss K E, F__law_made ss K E → defF [false, false, false, false] 4 sf__law_made ss K E := fun ss K E h => by
  obtain ⟨k, i, j, q, rfl, hk, h⟩ := h
  have : k = 0 ∨ k = 1 ∨ k = 2 ∨ k = 3 ∨ k = 4 ∨ k = 5 ∨ k = 6 ∨ k = 7 ∨ k = 8 ∨ k = 9 ∨ k = 10 ∨ k = 11 := by omega
  rcases this with rfl | rfl | rfl | rfl | rfl | rfl | rfl | rfl | rfl | rfl | rfl | rfl
  all_goals
    simp [sf__law_made, cE, vE, bE, rE, fE, mE, bin, nilA, consA, bT, andT, orT, notT, tupE, lstE, allV, allM, okB, intR, addR, asL, asT, asD, eqR, eqD_nn, eqD_bb, eqD_ii, eqD_ss, eqD_tt, eqD_ll, eqD_bi, eqD_ib, eqD_nt, eqD_tn, eqD_it, eqD_ti, eqD_ni, eqD_in, eqDs_nn, eqDs_cc, eqDs_nc, eqDs_cn, cmpD, cmpDs, depD, depDs, isNon, isNR, chainE, tvE, andV, orV, notV, ifE, slEV, ixR, callV, lenC, isiC, tyN, pick, retEV, callP, argD, argDs, seqS, bkS, ctS, exprS, retS, retNS, ifS, evSl, setS, SK.loop, gN, gNil, gCons, gT, asgS, parS, defF, defK, raiseS, absC, divmodC, mmC, stL, itL, itT, itR1, itR2, itE, shL, itZ, itV, forS, evD, methL, appL, clrL, popL, insL, trL, extL, setixS, argS, argSs, callI, callN, hereA, nextA, negE, itS, wipeR, compE, compD, yesT, seqD, listC, tupC, numd, zipd, nxS, frSl, retSl, retSls, retOk, retOks, tryAsS, tryOnlyS, lookB, kinE, xfE, lookF, frzE, isTR, isTB, allC, blsD, gU, raiseIS, at0, at1, at2, at3, lrE, sortC, intC, intsD, slE, intO, cutD, eqXR, slX, addT, repT, compX, compDx, inR, cmpO, heldR, appT, lrE, sortC, intC, intsD, slE, intO, cutD, eqXR, slX, addT, repT, compX, compDx, neYR, lrevE, mkE, mkIE, isvE, xvE, exD] at h ⊢
  all_goals (try exact h)
theorem to__law_marks : ∀ ss K E, F__law_marks ss K E → defF [false] 2 sf__law_marks ss K E := fun ss K E h => by
  obtain ⟨k, i, j, q, rfl, hk, h⟩ := h
  have : k = 0 ∨ k = 1 ∨ k = 2 ∨ k = 3 ∨ k = 4 ∨ k = 5 ∨ k = 6 ∨ k = 7 ∨ k = 8 ∨ k = 9 ∨ k = 10 ∨ k = 11 := by omega
  rcases this with rfl | rfl | rfl | rfl | rfl | rfl | rfl | rfl | rfl | rfl | rfl | rfl
  all_goals
    simp! [sf__law_marks, exD, lookB, ofS_inj]
  all_goals (try exact h)
theorem to__law_keeps : ∀ ss K E, F__law_keeps ss K E → defF [false, false, false, false, false] 5 sf__law_keeps ss K E := fun ss K E h => by
  obtain ⟨k, i, j, q, rfl, hk, h⟩ := h
  have : k = 0 ∨ k = 1 ∨ k = 2 ∨ k = 3 ∨ k = 4 ∨ k = 5 ∨ k = 6 ∨ k = 7 ∨ k = 8 ∨ k = 9 ∨ k = 10 ∨ k = 11 := by omega
  rcases this with rfl | rfl | rfl | rfl | rfl | rfl | rfl | rfl | rfl | rfl | rfl | rfl
  all_goals
    simp! [sf__law_keeps, exD, lookF, ofS_inj, eqD, eqDs, frD]
  all_goals (try exact h)
theorem s8 {n : Int} (h : n.natAbs < 2 ^ 30) : Si 8000 n := Si.mono (n := 30) h (by decide)
theorem s81 {n : Int} (h : n.natAbs < 1000) : Si 8100 n := Si.mono (n := 10) (by unfold Si; omega) (by decide)
theorem p106 : L2.CPow 10 6 := by unfold L2.CPow; decide +kernel
theorem comp_mapK {α : Type} {own : List Nat} {g : GS} {t : BS} {f : ES} {ρ : Rho} (u v : α → D) : ∀ (xs : List α) (acc : List D) (K : List D → Prop),
    (∀ a ∈ xs, ∀ (acc ds : List D) (K : List D → Prop), compD own g t f ρ ds (acc ++ [v a]) K → compD own g t f ρ (u a :: ds) acc K) → K (acc ++ xs.map v) → compD own g t f ρ (xs.map u) acc K
  | [], acc, K, _, k => by simpa [compD] using k
  | a :: xs, acc, K, step, k => by
    refine step a List.mem_cons_self acc _ K (comp_mapK u v xs _ K (fun b hb => step b (List.mem_cons_of_mem _ hb)) ?_)
    simpa using k
section
variable {s0 s1 s2 s8 : Sl} {k : Nat} {a b : Int} {q : Rat} {S : SK}
theorem r2_ok (hk : k < 12) (h : sf_law_r1 [s0, s1, s2, .v (.int (k : Nat)), .v (.int a), .v (.int b), .v (.tup [.int q.num, .int (q.den : Nat)]), .v (exD k a b q), s8] S) : sf_law_r2 [s0, s1, s2, .v (.int (k : Nat)), .v (.int a), .v (.int b), .v (.tup [.int q.num, .int (q.den : Nat)]), .v (exD k a b q), s8] S := by
  have : k = 0 ∨ k = 1 ∨ k = 2 ∨ k = 3 ∨ k = 4 ∨ k = 5 ∨ k = 6 ∨ k = 7 ∨ k = 8 ∨ k = 9 ∨ k = 10 ∨ k = 11 := by omega
  rcases this with rfl | rfl | rfl | rfl | rfl | rfl | rfl | rfl | rfl | rfl | rfl | rfl
  all_goals
    simp only [exD] at h ⊢
    simp! [sf_law_r2, lookB, ofS_inj]
    exact h
theorem r1_ok (hk : k < 12) (h : ∀ x, S.nx [s0, s1, s2, .v (.int (k : Nat)), .v (.int a), .v (.int b), .v (.tup [.int q.num, .int (q.den : Nat)]), .v (exD k a b q), x]) : sf_law_r1 [s0, s1, s2, .v (.int (k : Nat)), .v (.int a), .v (.int b), .v (.tup [.int q.num, .int (q.den : Nat)]), .v (exD k a b q), s8] S := by
  simp! [sf_law_r1]
  refine ⟨k, a, b, q, rfl, hk, ?_⟩
  simp! [cE]
  have e : rngD 0 12 = (List.range 12).map fun j => D.int (j : Nat) := by
    unfold rngD
    simp
  rw [e]
  refine ⟨by simp, comp_mapK (fun j : Nat => D.int (j : Nat)) (fun j => .bl (decide (j = k))) (List.range 12) [] _ (fun j hj acc ds K z => ?_) ?_⟩
  · simp! [cE]
    have e : ((j : Int) == (k : Int)) = decide (j = k) := by
      by_cases c : j = k
      · simp [c]
      · have c2 : (j : Int) ≠ (k : Int) := by omega
        simp [c, c2]
    rw [e]
    exact z
  · rw [List.nil_append]
    have m : ∀ l : List Nat, cmpDs (l.map fun j => D.bl (decide (j = k))) = true ∧ eqDs (l.map fun j => D.bl (decide (j = k))) (l.map fun j => D.bl (decide (j = k))) = true ∧ depDs (l.map fun j => D.bl (decide (j = k))) = 0 := fun l => by
      induction l with
      | nil => simp [cmpDs, eqDs, depDs]
      | cons x l ih => simp [cmpDs, cmpD, eqDs, eqD, depDs, depD, ih]
    obtain ⟨m1, m2, m3⟩ := m (List.range 12)
    unfold mksD
    refine ⟨⟨m1, m1, by rw [m3]; decide⟩, ?_⟩
    rw [if_pos m2]
    refine ⟨k, a, b, q, rfl, hk, ?_⟩
    simp
    exact h _
end
theorem to_law : ∀ ss K E, F_law ss K E → defF [false] 9 sf_law ss K E := fun ss K E h => by
  unfold F_law at h
  split at h
  · rename_i ds
    obtain ⟨⟨ns, rfl, hl, hb⟩, h⟩ := h
    have hs : isScript (ns.map .int) := ⟨ns, rfl, hl, fun n hn => Si.mono (n := 1048576) (bits_si (hb n hn)) (by decide)⟩
    simp! [sf_law, F__law_box]
    refine ⟨hs, fun n0 => ?_⟩
    refine loop_inv (fun i ρ => ∃ n x2 x3 x4 x5 x6 x7 x8, ρ = [.v (.lst true (ns.map .int)), .l [.int n], x2, x3, x4, x5, x6, x7, x8]) ⟨_, _, _, _, _, _, _, _, rfl⟩ ?_ ?_
    · rintro i d ρ K' hd ⟨n, x2, x3, x4, x5, x6, x7, x8, rfl⟩ next
      obtain ⟨hi, rfl⟩ := rngD_get hd
      simp! [F__law_take]
      refine ⟨Si.mono (n := 10) (by unfold Si; decide) (by decide), fun d d0 d1 => ?_⟩
      refine ⟨s8 (by decide), fun a a0 a1 => ⟨p106, s8 (by decide), fun b b0 b1 => ⟨s8 (by decide), fun u u0 u1 => ⟨s8 (by decide), fun v n2 v0 v1 => ⟨⟨by omega, s81 (by omega)⟩, ?_⟩⟩⟩⟩⟩
      have k0 : 0 ≤ (d + (i : Int)).fmod 12 := Int.fmod_nonneg_of_pos _ (by decide)
      have k1 : (d + (i : Int)).fmod 12 < 12 := Int.fmod_lt_of_pos _ (by decide)
      generalize (d + (i : Int)).fmod 12 = kk at *
      obtain ⟨k, rfl⟩ : ∃ z : Nat, kk = (z : Int) := ⟨kk.toNat, by omega⟩
      generalize ((u - 50 : Int) : Rat) / ((1 + v : Int) : Rat) = q
      simp! [frD]
      simp! [sf_law_r3]
      refine ⟨k, a, b, q, rfl, by omega, ?_⟩
      simp! [cE]
      exact r2_ok (by omega) (r1_ok (by omega) (fun x => next _ ⟨_, _, _, _, _, _, _, _, rfl⟩))
    · rintro ρ ⟨n, x2, x3, x4, x5, x6, x7, x8, rfl⟩
      simp! [cE]
      exact h
  · exact h.elim
end VS
set_option Elab.async false
set_option linter.all false
set_option maxRecDepth 100000
set_option maxHeartbeats 4000000
namespace VS
open PySem PySem.Spec PyProof.Rows
open L2 (V Hp Cx WX)
def topS (i : Nat) : Stmt := PySem.Challenge.pw_knockwright_k07_refusals_made.main.body.getD i (.Pass ⟨0, 0, 0, 0⟩)
theorem sc__law_cell : L2.FnScope ["script", "k"] ["script", "k"] (L2.defScope (topS 15)) := ⟨rfl, rfl, rfl, by decide +kernel, rfl, by decide +kernel, by decide +kernel⟩
theorem ok__law_cell {P : Program} {w : World} {K : PySem.W.Frag} {mg : Str → Option Value} {base : Heap} (a__law_cell : At K mg "_law_cell" "_law_cell" (topS 15) ["script", "k"]) (z_len : mg "len" = none) :
  DefR P w K mg base 33 "_law_cell" ["script", "k"] [false, false] (defF [false, false] 2 sf__law_cell) :=
  DefR.mk' (k := 32) a__law_cell sc__law_cell rfl (by decide) (fun f cdv A outer s H E Z H0 io zd zi s0 hr =>
    ((sjs_cons (sj_if (tj_lt (ej_v (L2.pv 1)) (ej_callB L2.call_len lenC_mono (lenC_says rfl) (by rfl) z_len (by decide +kernel) (aj_cons (ej_v (L2.pv 0)) aj_nil))) (sjs_one (sj_ret (ej_ix rfl (fun _ _ => rfl) (ej_v (L2.pv 0)) (ej_v (L2.pv 1))))) sjs_nil)
    (sjs_one (sj_ret (ej_add rfl (ej_mul ej_int (ej_v (L2.pv 1))) ej_int)))))
    )
theorem sc__law_mix : L2.FnScope ["cell", "k", "number"] ["cell", "k"] (L2.defScope (topS 16)) := ⟨rfl, rfl, rfl, by decide +kernel, rfl, by decide +kernel, by decide +kernel⟩
theorem ok__law_mix {P : Program} {w : World} {K : PySem.W.Frag} {mg : Str → Option Value} {base : Heap} (a__law_mix : At K mg "_law_mix" "_law_mix" (topS 16) ["cell", "k"]) :
  DefR P w K mg base 33 "_law_mix" ["cell", "k"] [false, false] (defF [false, false] 3 sf__law_mix) :=
  DefR.mk' (k := 32) a__law_mix sc__law_mix rfl (by decide) (fun f cdv A outer s H E Z H0 io zd zi s0 hr =>
    ((sjs_cons (sj_set (i := 2) (fz := true) (ej_add rfl (ej_mul (ej_add rfl (ej_v (L2.pv 0)) ej_int) ej_int) (ej_mul ej_int (ej_v (L2.pv 1)))) (nm rfl) sc__law_mix.nd rfl (.inl rfl))
    (sjs_cons (sj_set (i := 2) (fz := true) (ej_add rfl (ej_mod (ej_mul (ej_v (L2.pv 2)) (ej_v (L2.pv 2))) ej_int) (ej_v (L2.pv 1))) (nm rfl) sc__law_mix.nd rfl (.inl rfl))
    (sjs_one (sj_ret (ej_mod (ej_mul (ej_v (L2.pv 2)) (ej_add rfl (ej_v (L2.pv 2)) ej_int)) ej_int))))))
    )
theorem sc__law_box : L2.FnScope ["script", "k", "here", "number", "j"] ["script", "k"] (L2.defScope (topS 17)) := ⟨rfl, rfl, rfl, by decide +kernel, rfl, by decide +kernel, by decide +kernel⟩
theorem ok__law_box {P : Program} {w : World} {K : PySem.W.Frag} {mg : Str → Option Value} {base : Heap} (a__law_box : At K mg "_law_box" "_law_box" (topS 17) ["script", "k"]) (d__law_cell : Def P w K mg base 33 "_law_cell" ["script", "k"] [false, false] F__law_cell) (y_K : PyK P K mg) (d__law_mix : Def P w K mg base 33 "_law_mix" ["cell", "k"] [false, false] F__law_mix) (z_range : mg "range" = none) :
  DefR P w K mg base 34 "_law_box" ["script", "k"] [false, false] (defF [false, false] 5 sf__law_box) :=
  DefR.mk' (k := 33) a__law_box sc__law_box rfl (by decide) (fun f cdv A outer s H E Z H0 io zd zi s0 hr =>
    ((sjs_cons (sj_set (i := 2) (fz := true) (ej_call d__law_cell (by decide) rfl rfl hr (by decide) (by rfl) (L2.takes_of rfl rfl rfl rfl) (aj_cons (ej_v (L2.pv 0)) (aj_cons (ej_v (L2.pv 1)) aj_nil))) (nm rfl) sc__law_box.nd rfl (.inl rfl))
    (sjs_cons (sj_if (tj_eq rfl (u128 hr) (ej_mod (ej_v (L2.pv 2)) ej_int) ej_int) (sjs_one (sj_ret (ej_lst (aj_cons (ej_fdiv (pyD y_K sc__law_box (by decide) hr) (ej_v (L2.pv 2)) ej_int) aj_nil)))) sjs_nil)
    (sjs_cons (sj_set (i := 3) (fz := true) ej_int (nm rfl) sc__law_box.nd rfl (.inl rfl))
    (sjs_cons (sj_for (L2.passes_of rfl) rfl (ij_range1 (by rfl) z_range (aj_cons ej_int aj_nil)) (gj_name (nm rfl) sc__law_box.nd rfl (.inl rfl)) (sjs_one (sj_set (i := 3) (fz := true) (ej_add rfl (ej_mul (ej_v (L2.pv 3)) ej_int) (ej_call d__law_mix (by decide) rfl rfl hr (by decide) (by rfl) (L2.takes_of rfl rfl rfl rfl) (aj_cons (ej_v (L2.pv 2)) (aj_cons (ej_v (L2.pv 4)) aj_nil)))) (nm rfl) sc__law_box.nd rfl (.inl rfl))))
    (sjs_one (sj_ret (ej_lst (aj_cons (ej_v (L2.pv 3)) aj_nil)))))))))
    )
theorem sc__law_fit : L2.FnScope ["top", "bottom", "one", "other"] ["top", "bottom"] (L2.defScope (topS 19)) := ⟨rfl, rfl, rfl, by decide +kernel, rfl, by decide +kernel, by decide +kernel⟩
theorem ok__law_fit {P : Program} {w : World} {K : PySem.W.Frag} {mg : Str → Option Value} {base : Heap} (a__law_fit : At K mg "_law_fit" "_law_fit" (topS 19) ["top", "bottom"]) (y_K : PyK P K mg) (z_abs : mg "abs" = none) :
  DefR P w K mg base 33 "_law_fit" ["top", "bottom"] [false, false] (defF [false, false] 4 sf__law_fit) :=
  DefR.mk' (k := 32) a__law_fit sc__law_fit rfl (by decide) (fun f cdv A outer s H E Z H0 io zd zi s0 hr =>
    ((sjs_cons (sj_par (i := 2) (j := 3) (nm rfl) (nm rfl) rfl sc__law_fit.nd rfl rfl (by decide) rfl rfl (aj_cons (ej_callB L2.call_abs absC_mono absC_says (by rfl) z_abs (by decide +kernel) (aj_cons (ej_v (L2.pv 0)) aj_nil)) (aj_cons (ej_callB L2.call_abs absC_mono absC_says (by rfl) z_abs (by decide +kernel) (aj_cons (ej_v (L2.pv 1)) aj_nil)) aj_nil)) rfl)
    (sjs_cons (sj_while (L2.passes_of rfl) (tj_gt (ej_v (L2.pv 3)) ej_int) (sjs_one (sj_par (i := 2) (j := 3) (nm rfl) (nm rfl) rfl sc__law_fit.nd rfl rfl (by decide) rfl rfl (aj_cons (ej_v (L2.pv 3)) (aj_cons (ej_mod (ej_v (L2.pv 2)) (ej_v (L2.pv 3))) aj_nil)) rfl)))
    (sjs_cons (sj_if (tj_lt (ej_v (L2.pv 1)) ej_int) (sjs_one (sj_set (i := 2) (fz := true) (ej_sub ej_int (ej_v (L2.pv 2))) (nm rfl) sc__law_fit.nd rfl (.inl rfl))) sjs_nil)
    (sjs_one (sj_ret (ej_tup (aj_cons (ej_fdiv (pyD y_K sc__law_fit (by decide) hr) (ej_v (L2.pv 0)) (ej_v (L2.pv 2))) (aj_cons (ej_fdiv (pyD y_K sc__law_fit (by decide) hr) (ej_v (L2.pv 1)) (ej_v (L2.pv 2))) aj_nil)) rfl)))))))
    )
theorem sc__law_made : L2.FnScope ["kind", "one", "other", "place"] ["kind", "one", "other", "place"] (L2.defScope (topS 21)) := ⟨rfl, rfl, rfl, by decide +kernel, rfl, by decide +kernel, by decide +kernel⟩
theorem ok__law_made {P : Program} {w : World} {K : PySem.W.Frag} {mg : Str → Option Value} {base : Heap} (a__law_made : At K mg "_law_made" "_law_made" (topS 21) ["kind", "one", "other", "place"]) (x_NoNumber : XCls K mg "NoNumber") (x_NoBody : XCls K mg "NoBody") (x_NoMoment : XCls K mg "NoMoment") (x_NoShare : XCls K mg "NoShare") (x_TooMany : XCls K mg "TooMany") (x_NoRow : XCls K mg "NoRow") (x_NoRun : XCls K mg "NoRun") (x_NoBox : XCls K mg "NoBox") (i_NoWorld : XIni P w K mg base 1 "NoWorld" ["at"]) (i_NoText : XIni P w K mg base 1 "NoText" ["line"]) (i_Overlap : XIni P w K mg base 1 "Overlap" ["one", "other"]) (i_Crowd : XIni P w K mg base 1 "Crowd" ["moment", "place", "numbers"]) :
  DefR P w K mg base 33 "_law_made" ["kind", "one", "other", "place"] [false, false, false, false] (defF [false, false, false, false] 4 sf__law_made) :=
  DefR.mk' (k := 32) a__law_made sc__law_made rfl (by decide) (fun f cdv A outer s H E Z H0 io zd zi s0 hr =>
    ((sjs_cons (sj_if (tj_lt (ej_v (L2.pv 0)) ej_int) (sjs_one (sj_ret (ej_ix rfl (fun _ _ => rfl) (ej_lst (aj_cons (ej_mk rfl rfl x_NoNumber (by rfl)) (aj_cons (ej_mk rfl rfl x_NoBody (by rfl)) (aj_cons (ej_mk rfl rfl x_NoMoment (by rfl)) (aj_cons (ej_mk rfl rfl x_NoShare (by rfl)) aj_nil))))) (ej_v (L2.pv 0))))) sjs_nil)
    (sjs_cons (sj_if (tj_lt (ej_v (L2.pv 0)) ej_int) (sjs_one (sj_ret (ej_ix rfl (fun _ _ => rfl) (ej_lst (aj_cons (ej_mk rfl rfl x_TooMany (by rfl)) (aj_cons (ej_mk rfl rfl x_NoRow (by rfl)) (aj_cons (ej_mk rfl rfl x_NoRun (by rfl)) (aj_cons (ej_mk rfl rfl x_NoBox (by rfl)) aj_nil))))) (ej_sub (ej_v (L2.pv 0)) ej_int)))) sjs_nil)
    (sjs_one (sj_ret (ej_ix rfl (fun _ _ => rfl) (ej_lst (aj_cons (ej_mkI (fl := ["at"]) rfl rfl hr (by decide) (L2.takes_of rfl rfl rfl rfl) i_NoWorld passes0 (by rfl) (aj_cons (ej_v (L2.pv 1)) aj_nil)) (aj_cons (ej_mkI (fl := ["line"]) rfl rfl hr (by decide) (L2.takes_of rfl rfl rfl rfl) i_NoText passes0 (by rfl) (aj_cons (ej_v (L2.pv 2)) aj_nil)) (aj_cons (ej_mkI (fl := ["one", "other"]) rfl rfl hr (by decide) (L2.takes_of rfl rfl rfl rfl) i_Overlap passes0 (by rfl) (aj_cons (ej_v (L2.pv 1)) (aj_cons (ej_v (L2.pv 2)) aj_nil))) (aj_cons (ej_mkI (fl := ["moment", "place", "numbers"]) rfl rfl hr (by decide) (L2.takes_of rfl rfl rfl rfl) i_Crowd passes0 (by rfl) (aj_cons (ej_v (L2.pv 3)) (aj_cons (ej_tup (aj_cons ej_int (aj_cons ej_int aj_nil)) rfl) (aj_cons (ej_tup (aj_cons (ej_v (L2.pv 1)) (aj_cons (ej_add rfl (ej_v (L2.pv 1)) ej_int) (aj_cons (ej_add rfl (ej_v (L2.pv 1)) ej_int) aj_nil))) rfl) aj_nil)))) aj_nil))))) (ej_sub (ej_v (L2.pv 0)) ej_int)))))))
    )
theorem sc__law_take : L2.FnScope ["box", "many", "left", "digit"] ["box", "many"] (L2.defScope (topS 18)) := ⟨rfl, rfl, rfl, by decide +kernel, rfl, by decide +kernel, by decide +kernel⟩
theorem ok__law_take {P : Program} {w : World} {K : PySem.W.Frag} {mg : Str → Option Value} {base : Heap} (a__law_take : At K mg "_law_take" "_law_take" (topS 18) ["box", "many"]) (y_K : PyK P K mg) (z_divmod : mg "divmod" = none) :
  DefR P w K mg base 33 "_law_take" ["box", "many"] [true, false] (defF [true, false] 4 sf__law_take) :=
  DefR.mk' (k := 32) a__law_take sc__law_take rfl (by decide) (fun f cdv A outer s H E Z H0 io zd zi s0 hr =>
    ((sjs_cons (sj_asg (ej_callB (call_divmodV (pyD y_K sc__law_take (by decide) hr)) divmodC_mono divmodC_says (by rfl) z_divmod (by decide +kernel) (aj_cons (ej_ix rfl (fun _ _ => rfl) (ej_r (L2.pv 0)) ej_int) (aj_cons (ej_v (L2.pv 1)) aj_nil))) (gj_tup rfl rfl (gjs_cons (gj_name (nm rfl) sc__law_take.nd rfl (.inl rfl)) (gjs_cons (gj_name (nm rfl) sc__law_take.nd rfl (.inl rfl)) gjs_nil))))
    (sjs_cons (sj_setix (i := 0) (L2.pv 0) (ej_v (L2.pv 2)) ej_int)
    (sjs_one (sj_ret (ej_v (L2.pv 3)))))))
    )
theorem sc__law_marks : L2.FnScope ["e", "marks"] ["e"] (L2.defScope (topS 20)) := ⟨rfl, rfl, rfl, by decide +kernel, rfl, by decide +kernel, by decide +kernel⟩
theorem ok__law_marks {P : Program} {w : World} {K : PySem.W.Frag} {mg : Str → Option Value} {base : Heap} (a__law_marks : At K mg "_law_marks" "_law_marks" (topS 20) ["e"]) (k_Crowd_NoNumber : KN K mg "Crowd" "NoNumber" false) (k_NoBody_NoNumber : KN K mg "NoBody" "NoNumber" false) (k_NoBox_NoNumber : KN K mg "NoBox" "NoNumber" false) (k_NoMoment_NoNumber : KN K mg "NoMoment" "NoNumber" false) (k_NoNumber_NoNumber : KN K mg "NoNumber" "NoNumber" true) (k_NoRow_NoNumber : KN K mg "NoRow" "NoNumber" false) (k_NoRun_NoNumber : KN K mg "NoRun" "NoNumber" false) (k_NoShare_NoNumber : KN K mg "NoShare" "NoNumber" false) (k_NoText_NoNumber : KN K mg "NoText" "NoNumber" false) (k_NoWorld_NoNumber : KN K mg "NoWorld" "NoNumber" false) (k_Overlap_NoNumber : KN K mg "Overlap" "NoNumber" false) (k_TooMany_NoNumber : KN K mg "TooMany" "NoNumber" false) (k_Crowd_NoBody : KN K mg "Crowd" "NoBody" false) (k_NoBody_NoBody : KN K mg "NoBody" "NoBody" true) (k_NoBox_NoBody : KN K mg "NoBox" "NoBody" false) (k_NoMoment_NoBody : KN K mg "NoMoment" "NoBody" false) (k_NoNumber_NoBody : KN K mg "NoNumber" "NoBody" false) (k_NoRow_NoBody : KN K mg "NoRow" "NoBody" false) (k_NoRun_NoBody : KN K mg "NoRun" "NoBody" false) (k_NoShare_NoBody : KN K mg "NoShare" "NoBody" false) (k_NoText_NoBody : KN K mg "NoText" "NoBody" false) (k_NoWorld_NoBody : KN K mg "NoWorld" "NoBody" false) (k_Overlap_NoBody : KN K mg "Overlap" "NoBody" false) (k_TooMany_NoBody : KN K mg "TooMany" "NoBody" false) (k_Crowd_NoMoment : KN K mg "Crowd" "NoMoment" false) (k_NoBody_NoMoment : KN K mg "NoBody" "NoMoment" false) (k_NoBox_NoMoment : KN K mg "NoBox" "NoMoment" false) (k_NoMoment_NoMoment : KN K mg "NoMoment" "NoMoment" true) (k_NoNumber_NoMoment : KN K mg "NoNumber" "NoMoment" false) (k_NoRow_NoMoment : KN K mg "NoRow" "NoMoment" false) (k_NoRun_NoMoment : KN K mg "NoRun" "NoMoment" false) (k_NoShare_NoMoment : KN K mg "NoShare" "NoMoment" false) (k_NoText_NoMoment : KN K mg "NoText" "NoMoment" false) (k_NoWorld_NoMoment : KN K mg "NoWorld" "NoMoment" false) (k_Overlap_NoMoment : KN K mg "Overlap" "NoMoment" false) (k_TooMany_NoMoment : KN K mg "TooMany" "NoMoment" false) (k_Crowd_NoShare : KN K mg "Crowd" "NoShare" false) (k_NoBody_NoShare : KN K mg "NoBody" "NoShare" false) (k_NoBox_NoShare : KN K mg "NoBox" "NoShare" false) (k_NoMoment_NoShare : KN K mg "NoMoment" "NoShare" false) (k_NoNumber_NoShare : KN K mg "NoNumber" "NoShare" false) (k_NoRow_NoShare : KN K mg "NoRow" "NoShare" false) (k_NoRun_NoShare : KN K mg "NoRun" "NoShare" false) (k_NoShare_NoShare : KN K mg "NoShare" "NoShare" true) (k_NoText_NoShare : KN K mg "NoText" "NoShare" false) (k_NoWorld_NoShare : KN K mg "NoWorld" "NoShare" false) (k_Overlap_NoShare : KN K mg "Overlap" "NoShare" false) (k_TooMany_NoShare : KN K mg "TooMany" "NoShare" false) (k_Crowd_TooMany : KN K mg "Crowd" "TooMany" false) (k_NoBody_TooMany : KN K mg "NoBody" "TooMany" false) (k_NoBox_TooMany : KN K mg "NoBox" "TooMany" false) (k_NoMoment_TooMany : KN K mg "NoMoment" "TooMany" false) (k_NoNumber_TooMany : KN K mg "NoNumber" "TooMany" false) (k_NoRow_TooMany : KN K mg "NoRow" "TooMany" false) (k_NoRun_TooMany : KN K mg "NoRun" "TooMany" false) (k_NoShare_TooMany : KN K mg "NoShare" "TooMany" false) (k_NoText_TooMany : KN K mg "NoText" "TooMany" false) (k_NoWorld_TooMany : KN K mg "NoWorld" "TooMany" false) (k_Overlap_TooMany : KN K mg "Overlap" "TooMany" false) (k_TooMany_TooMany : KN K mg "TooMany" "TooMany" true) (k_Crowd_NoRow : KN K mg "Crowd" "NoRow" false) (k_NoBody_NoRow : KN K mg "NoBody" "NoRow" false) (k_NoBox_NoRow : KN K mg "NoBox" "NoRow" false) (k_NoMoment_NoRow : KN K mg "NoMoment" "NoRow" false) (k_NoNumber_NoRow : KN K mg "NoNumber" "NoRow" false) (k_NoRow_NoRow : KN K mg "NoRow" "NoRow" true) (k_NoRun_NoRow : KN K mg "NoRun" "NoRow" false) (k_NoShare_NoRow : KN K mg "NoShare" "NoRow" false) (k_NoText_NoRow : KN K mg "NoText" "NoRow" false) (k_NoWorld_NoRow : KN K mg "NoWorld" "NoRow" false) (k_Overlap_NoRow : KN K mg "Overlap" "NoRow" false) (k_TooMany_NoRow : KN K mg "TooMany" "NoRow" false) (k_Crowd_NoRun : KN K mg "Crowd" "NoRun" false) (k_NoBody_NoRun : KN K mg "NoBody" "NoRun" false) (k_NoBox_NoRun : KN K mg "NoBox" "NoRun" false) (k_NoMoment_NoRun : KN K mg "NoMoment" "NoRun" false) (k_NoNumber_NoRun : KN K mg "NoNumber" "NoRun" false) (k_NoRow_NoRun : KN K mg "NoRow" "NoRun" false) (k_NoRun_NoRun : KN K mg "NoRun" "NoRun" true) (k_NoShare_NoRun : KN K mg "NoShare" "NoRun" false) (k_NoText_NoRun : KN K mg "NoText" "NoRun" false) (k_NoWorld_NoRun : KN K mg "NoWorld" "NoRun" false) (k_Overlap_NoRun : KN K mg "Overlap" "NoRun" false) (k_TooMany_NoRun : KN K mg "TooMany" "NoRun" false) (k_Crowd_NoBox : KN K mg "Crowd" "NoBox" false) (k_NoBody_NoBox : KN K mg "NoBody" "NoBox" false) (k_NoBox_NoBox : KN K mg "NoBox" "NoBox" true) (k_NoMoment_NoBox : KN K mg "NoMoment" "NoBox" false) (k_NoNumber_NoBox : KN K mg "NoNumber" "NoBox" false) (k_NoRow_NoBox : KN K mg "NoRow" "NoBox" false) (k_NoRun_NoBox : KN K mg "NoRun" "NoBox" false) (k_NoShare_NoBox : KN K mg "NoShare" "NoBox" false) (k_NoText_NoBox : KN K mg "NoText" "NoBox" false) (k_NoWorld_NoBox : KN K mg "NoWorld" "NoBox" false) (k_Overlap_NoBox : KN K mg "Overlap" "NoBox" false) (k_TooMany_NoBox : KN K mg "TooMany" "NoBox" false) (k_Crowd_NoWorld : KN K mg "Crowd" "NoWorld" false) (k_NoBody_NoWorld : KN K mg "NoBody" "NoWorld" false) (k_NoBox_NoWorld : KN K mg "NoBox" "NoWorld" false) (k_NoMoment_NoWorld : KN K mg "NoMoment" "NoWorld" false) (k_NoNumber_NoWorld : KN K mg "NoNumber" "NoWorld" false) (k_NoRow_NoWorld : KN K mg "NoRow" "NoWorld" false) (k_NoRun_NoWorld : KN K mg "NoRun" "NoWorld" false) (k_NoShare_NoWorld : KN K mg "NoShare" "NoWorld" false) (k_NoText_NoWorld : KN K mg "NoText" "NoWorld" false) (k_NoWorld_NoWorld : KN K mg "NoWorld" "NoWorld" true) (k_Overlap_NoWorld : KN K mg "Overlap" "NoWorld" false) (k_TooMany_NoWorld : KN K mg "TooMany" "NoWorld" false) (k_Crowd_NoText : KN K mg "Crowd" "NoText" false) (k_NoBody_NoText : KN K mg "NoBody" "NoText" false) (k_NoBox_NoText : KN K mg "NoBox" "NoText" false) (k_NoMoment_NoText : KN K mg "NoMoment" "NoText" false) (k_NoNumber_NoText : KN K mg "NoNumber" "NoText" false) (k_NoRow_NoText : KN K mg "NoRow" "NoText" false) (k_NoRun_NoText : KN K mg "NoRun" "NoText" false) (k_NoShare_NoText : KN K mg "NoShare" "NoText" false) (k_NoText_NoText : KN K mg "NoText" "NoText" true) (k_NoWorld_NoText : KN K mg "NoWorld" "NoText" false) (k_Overlap_NoText : KN K mg "Overlap" "NoText" false) (k_TooMany_NoText : KN K mg "TooMany" "NoText" false) (k_Crowd_Overlap : KN K mg "Crowd" "Overlap" false) (k_NoBody_Overlap : KN K mg "NoBody" "Overlap" false) (k_NoBox_Overlap : KN K mg "NoBox" "Overlap" false) (k_NoMoment_Overlap : KN K mg "NoMoment" "Overlap" false) (k_NoNumber_Overlap : KN K mg "NoNumber" "Overlap" false) (k_NoRow_Overlap : KN K mg "NoRow" "Overlap" false) (k_NoRun_Overlap : KN K mg "NoRun" "Overlap" false) (k_NoShare_Overlap : KN K mg "NoShare" "Overlap" false) (k_NoText_Overlap : KN K mg "NoText" "Overlap" false) (k_NoWorld_Overlap : KN K mg "NoWorld" "Overlap" false) (k_Overlap_Overlap : KN K mg "Overlap" "Overlap" true) (k_TooMany_Overlap : KN K mg "TooMany" "Overlap" false) (k_Crowd_Crowd : KN K mg "Crowd" "Crowd" true) (k_NoBody_Crowd : KN K mg "NoBody" "Crowd" false) (k_NoBox_Crowd : KN K mg "NoBox" "Crowd" false) (k_NoMoment_Crowd : KN K mg "NoMoment" "Crowd" false) (k_NoNumber_Crowd : KN K mg "NoNumber" "Crowd" false) (k_NoRow_Crowd : KN K mg "NoRow" "Crowd" false) (k_NoRun_Crowd : KN K mg "NoRun" "Crowd" false) (k_NoShare_Crowd : KN K mg "NoShare" "Crowd" false) (k_NoText_Crowd : KN K mg "NoText" "Crowd" false) (k_NoWorld_Crowd : KN K mg "NoWorld" "Crowd" false) (k_Overlap_Crowd : KN K mg "Overlap" "Crowd" false) (k_TooMany_Crowd : KN K mg "TooMany" "Crowd" false) (z_isinstance : mg "isinstance" = none) :
  DefR P w K mg base 33 "_law_marks" ["e"] [false] (defF [false] 2 sf__law_marks) :=
  DefR.mk' (k := 32) a__law_marks sc__law_marks rfl (by decide) (fun f cdv A outer s H E Z H0 io zd zi s0 hr =>
    ((sjs_cons (sj_set (i := 1) (fz := true) (ej_lst (aj_cons (ej_isv (L := [("Crowd", false), ("NoBody", false), ("NoBox", false), ("NoMoment", false), ("NoNumber", true), ("NoRow", false), ("NoRun", false), ("NoShare", false), ("NoText", false), ("NoWorld", false), ("Overlap", false), ("TooMany", false)]) ("Crowd", false) _ rfl rfl rfl (by rfl) z_isinstance (by decide +kernel) (fm1 k_Crowd_NoNumber (fm1 k_NoBody_NoNumber (fm1 k_NoBox_NoNumber (fm1 k_NoMoment_NoNumber (fm1 k_NoNumber_NoNumber (fm1 k_NoRow_NoNumber (fm1 k_NoRun_NoNumber (fm1 k_NoShare_NoNumber (fm1 k_NoText_NoNumber (fm1 k_NoWorld_NoNumber (fm1 k_Overlap_NoNumber (fm1 k_TooMany_NoNumber fm0)))))))))))) (L2.pv 0) (by rfl)) (aj_cons (ej_isv (L := [("Crowd", false), ("NoBody", true), ("NoBox", false), ("NoMoment", false), ("NoNumber", false), ("NoRow", false), ("NoRun", false), ("NoShare", false), ("NoText", false), ("NoWorld", false), ("Overlap", false), ("TooMany", false)]) ("Crowd", false) _ rfl rfl rfl (by rfl) z_isinstance (by decide +kernel) (fm1 k_Crowd_NoBody (fm1 k_NoBody_NoBody (fm1 k_NoBox_NoBody (fm1 k_NoMoment_NoBody (fm1 k_NoNumber_NoBody (fm1 k_NoRow_NoBody (fm1 k_NoRun_NoBody (fm1 k_NoShare_NoBody (fm1 k_NoText_NoBody (fm1 k_NoWorld_NoBody (fm1 k_Overlap_NoBody (fm1 k_TooMany_NoBody fm0)))))))))))) (L2.pv 0) (by rfl)) (aj_cons (ej_isv (L := [("Crowd", false), ("NoBody", false), ("NoBox", false), ("NoMoment", true), ("NoNumber", false), ("NoRow", false), ("NoRun", false), ("NoShare", false), ("NoText", false), ("NoWorld", false), ("Overlap", false), ("TooMany", false)]) ("Crowd", false) _ rfl rfl rfl (by rfl) z_isinstance (by decide +kernel) (fm1 k_Crowd_NoMoment (fm1 k_NoBody_NoMoment (fm1 k_NoBox_NoMoment (fm1 k_NoMoment_NoMoment (fm1 k_NoNumber_NoMoment (fm1 k_NoRow_NoMoment (fm1 k_NoRun_NoMoment (fm1 k_NoShare_NoMoment (fm1 k_NoText_NoMoment (fm1 k_NoWorld_NoMoment (fm1 k_Overlap_NoMoment (fm1 k_TooMany_NoMoment fm0)))))))))))) (L2.pv 0) (by rfl)) (aj_cons (ej_isv (L := [("Crowd", false), ("NoBody", false), ("NoBox", false), ("NoMoment", false), ("NoNumber", false), ("NoRow", false), ("NoRun", false), ("NoShare", true), ("NoText", false), ("NoWorld", false), ("Overlap", false), ("TooMany", false)]) ("Crowd", false) _ rfl rfl rfl (by rfl) z_isinstance (by decide +kernel) (fm1 k_Crowd_NoShare (fm1 k_NoBody_NoShare (fm1 k_NoBox_NoShare (fm1 k_NoMoment_NoShare (fm1 k_NoNumber_NoShare (fm1 k_NoRow_NoShare (fm1 k_NoRun_NoShare (fm1 k_NoShare_NoShare (fm1 k_NoText_NoShare (fm1 k_NoWorld_NoShare (fm1 k_Overlap_NoShare (fm1 k_TooMany_NoShare fm0)))))))))))) (L2.pv 0) (by rfl)) aj_nil))))) (nm rfl) sc__law_marks.nd rfl (.inl rfl))
    (sjs_cons (sj_set (i := 1) (fz := true) (ej_add rfl (ej_v (L2.pv 1)) (ej_lst (aj_cons (ej_isv (L := [("Crowd", false), ("NoBody", false), ("NoBox", false), ("NoMoment", false), ("NoNumber", false), ("NoRow", false), ("NoRun", false), ("NoShare", false), ("NoText", false), ("NoWorld", false), ("Overlap", false), ("TooMany", true)]) ("Crowd", false) _ rfl rfl rfl (by rfl) z_isinstance (by decide +kernel) (fm1 k_Crowd_TooMany (fm1 k_NoBody_TooMany (fm1 k_NoBox_TooMany (fm1 k_NoMoment_TooMany (fm1 k_NoNumber_TooMany (fm1 k_NoRow_TooMany (fm1 k_NoRun_TooMany (fm1 k_NoShare_TooMany (fm1 k_NoText_TooMany (fm1 k_NoWorld_TooMany (fm1 k_Overlap_TooMany (fm1 k_TooMany_TooMany fm0)))))))))))) (L2.pv 0) (by rfl)) (aj_cons (ej_isv (L := [("Crowd", false), ("NoBody", false), ("NoBox", false), ("NoMoment", false), ("NoNumber", false), ("NoRow", true), ("NoRun", false), ("NoShare", false), ("NoText", false), ("NoWorld", false), ("Overlap", false), ("TooMany", false)]) ("Crowd", false) _ rfl rfl rfl (by rfl) z_isinstance (by decide +kernel) (fm1 k_Crowd_NoRow (fm1 k_NoBody_NoRow (fm1 k_NoBox_NoRow (fm1 k_NoMoment_NoRow (fm1 k_NoNumber_NoRow (fm1 k_NoRow_NoRow (fm1 k_NoRun_NoRow (fm1 k_NoShare_NoRow (fm1 k_NoText_NoRow (fm1 k_NoWorld_NoRow (fm1 k_Overlap_NoRow (fm1 k_TooMany_NoRow fm0)))))))))))) (L2.pv 0) (by rfl)) (aj_cons (ej_isv (L := [("Crowd", false), ("NoBody", false), ("NoBox", false), ("NoMoment", false), ("NoNumber", false), ("NoRow", false), ("NoRun", true), ("NoShare", false), ("NoText", false), ("NoWorld", false), ("Overlap", false), ("TooMany", false)]) ("Crowd", false) _ rfl rfl rfl (by rfl) z_isinstance (by decide +kernel) (fm1 k_Crowd_NoRun (fm1 k_NoBody_NoRun (fm1 k_NoBox_NoRun (fm1 k_NoMoment_NoRun (fm1 k_NoNumber_NoRun (fm1 k_NoRow_NoRun (fm1 k_NoRun_NoRun (fm1 k_NoShare_NoRun (fm1 k_NoText_NoRun (fm1 k_NoWorld_NoRun (fm1 k_Overlap_NoRun (fm1 k_TooMany_NoRun fm0)))))))))))) (L2.pv 0) (by rfl)) (aj_cons (ej_isv (L := [("Crowd", false), ("NoBody", false), ("NoBox", true), ("NoMoment", false), ("NoNumber", false), ("NoRow", false), ("NoRun", false), ("NoShare", false), ("NoText", false), ("NoWorld", false), ("Overlap", false), ("TooMany", false)]) ("Crowd", false) _ rfl rfl rfl (by rfl) z_isinstance (by decide +kernel) (fm1 k_Crowd_NoBox (fm1 k_NoBody_NoBox (fm1 k_NoBox_NoBox (fm1 k_NoMoment_NoBox (fm1 k_NoNumber_NoBox (fm1 k_NoRow_NoBox (fm1 k_NoRun_NoBox (fm1 k_NoShare_NoBox (fm1 k_NoText_NoBox (fm1 k_NoWorld_NoBox (fm1 k_Overlap_NoBox (fm1 k_TooMany_NoBox fm0)))))))))))) (L2.pv 0) (by rfl)) aj_nil)))))) (nm rfl) sc__law_marks.nd rfl (.inl rfl))
    (sjs_one (sj_ret (ej_add rfl (ej_v (L2.pv 1)) (ej_lst (aj_cons (ej_isv (L := [("Crowd", false), ("NoBody", false), ("NoBox", false), ("NoMoment", false), ("NoNumber", false), ("NoRow", false), ("NoRun", false), ("NoShare", false), ("NoText", false), ("NoWorld", true), ("Overlap", false), ("TooMany", false)]) ("Crowd", false) _ rfl rfl rfl (by rfl) z_isinstance (by decide +kernel) (fm1 k_Crowd_NoWorld (fm1 k_NoBody_NoWorld (fm1 k_NoBox_NoWorld (fm1 k_NoMoment_NoWorld (fm1 k_NoNumber_NoWorld (fm1 k_NoRow_NoWorld (fm1 k_NoRun_NoWorld (fm1 k_NoShare_NoWorld (fm1 k_NoText_NoWorld (fm1 k_NoWorld_NoWorld (fm1 k_Overlap_NoWorld (fm1 k_TooMany_NoWorld fm0)))))))))))) (L2.pv 0) (by rfl)) (aj_cons (ej_isv (L := [("Crowd", false), ("NoBody", false), ("NoBox", false), ("NoMoment", false), ("NoNumber", false), ("NoRow", false), ("NoRun", false), ("NoShare", false), ("NoText", true), ("NoWorld", false), ("Overlap", false), ("TooMany", false)]) ("Crowd", false) _ rfl rfl rfl (by rfl) z_isinstance (by decide +kernel) (fm1 k_Crowd_NoText (fm1 k_NoBody_NoText (fm1 k_NoBox_NoText (fm1 k_NoMoment_NoText (fm1 k_NoNumber_NoText (fm1 k_NoRow_NoText (fm1 k_NoRun_NoText (fm1 k_NoShare_NoText (fm1 k_NoText_NoText (fm1 k_NoWorld_NoText (fm1 k_Overlap_NoText (fm1 k_TooMany_NoText fm0)))))))))))) (L2.pv 0) (by rfl)) (aj_cons (ej_isv (L := [("Crowd", false), ("NoBody", false), ("NoBox", false), ("NoMoment", false), ("NoNumber", false), ("NoRow", false), ("NoRun", false), ("NoShare", false), ("NoText", false), ("NoWorld", false), ("Overlap", true), ("TooMany", false)]) ("Crowd", false) _ rfl rfl rfl (by rfl) z_isinstance (by decide +kernel) (fm1 k_Crowd_Overlap (fm1 k_NoBody_Overlap (fm1 k_NoBox_Overlap (fm1 k_NoMoment_Overlap (fm1 k_NoNumber_Overlap (fm1 k_NoRow_Overlap (fm1 k_NoRun_Overlap (fm1 k_NoShare_Overlap (fm1 k_NoText_Overlap (fm1 k_NoWorld_Overlap (fm1 k_Overlap_Overlap (fm1 k_TooMany_Overlap fm0)))))))))))) (L2.pv 0) (by rfl)) (aj_cons (ej_isv (L := [("Crowd", true), ("NoBody", false), ("NoBox", false), ("NoMoment", false), ("NoNumber", false), ("NoRow", false), ("NoRun", false), ("NoShare", false), ("NoText", false), ("NoWorld", false), ("Overlap", false), ("TooMany", false)]) ("Crowd", true) _ rfl rfl rfl (by rfl) z_isinstance (by decide +kernel) (fm1 k_Crowd_Crowd (fm1 k_NoBody_Crowd (fm1 k_NoBox_Crowd (fm1 k_NoMoment_Crowd (fm1 k_NoNumber_Crowd (fm1 k_NoRow_Crowd (fm1 k_NoRun_Crowd (fm1 k_NoShare_Crowd (fm1 k_NoText_Crowd (fm1 k_NoWorld_Crowd (fm1 k_Overlap_Crowd (fm1 k_TooMany_Crowd fm0)))))))))))) (L2.pv 0) (by rfl)) aj_nil)))))))))))
    )
theorem sc__law_keeps : L2.FnScope ["e", "kind", "one", "other", "place"] ["e", "kind", "one", "other", "place"] (L2.defScope (topS 22)) := ⟨rfl, rfl, rfl, by decide +kernel, rfl, by decide +kernel, by decide +kernel⟩
theorem ok__law_keeps {P : Program} {w : World} {K : PySem.W.Frag} {mg : Str → Option Value} {base : Heap} (a__law_keeps : At K mg "_law_keeps" "_law_keeps" (topS 22) ["e", "kind", "one", "other", "place"]) (f_NoWorld_at : XFl K mg "NoWorld" "at") (f_NoText_line : XFl K mg "NoText" "line") (f_Overlap_one : XFl K mg "Overlap" "one") (f_Overlap_other : XFl K mg "Overlap" "other") (f_Crowd_moment : XFl K mg "Crowd" "moment") (f_Crowd_place : XFl K mg "Crowd" "place") (f_Crowd_numbers : XFl K mg "Crowd" "numbers") :
  DefR P w K mg base 33 "_law_keeps" ["e", "kind", "one", "other", "place"] [false, false, false, false, false] (defF [false, false, false, false, false] 5 sf__law_keeps) :=
  DefR.mk' (k := 32) a__law_keeps sc__law_keeps rfl (by decide) (fun f cdv A outer s H E Z H0 io zd zi s0 hr =>
    ((sjs_cons (sj_if (tj_eq rfl (u128 hr) (ej_v (L2.pv 1)) ej_int) (sjs_one (sj_ret (ej_eq rfl (u128 hr) (ej_xv rfl f_NoWorld_at (L2.pv 0)) (ej_v (L2.pv 2))))) sjs_nil)
    (sjs_cons (sj_if (tj_eq rfl (u128 hr) (ej_v (L2.pv 1)) ej_int) (sjs_one (sj_ret (ej_eq rfl (u128 hr) (ej_xv rfl f_NoText_line (L2.pv 0)) (ej_v (L2.pv 3))))) sjs_nil)
    (sjs_cons (sj_if (tj_eq rfl (u128 hr) (ej_v (L2.pv 1)) ej_int) (sjs_one (sj_ret (ej_eq rfl (u128 hr) (ej_lst (aj_cons (ej_xv rfl f_Overlap_one (L2.pv 0)) (aj_cons (ej_xv rfl f_Overlap_other (L2.pv 0)) aj_nil))) (ej_lst (aj_cons (ej_v (L2.pv 2)) (aj_cons (ej_v (L2.pv 3)) aj_nil)))))) sjs_nil)
    (sjs_cons (sj_if (tj_eq rfl (u128 hr) (ej_v (L2.pv 1)) ej_int) (sjs_one (sj_ret (ej_eq rfl (u128 hr) (ej_lst (aj_cons (ej_xv rfl f_Crowd_moment (L2.pv 0)) (aj_cons (ej_xv rfl f_Crowd_place (L2.pv 0)) (aj_cons (ej_xv rfl f_Crowd_numbers (L2.pv 0)) aj_nil)))) (ej_lst (aj_cons (ej_v (L2.pv 4)) (aj_cons (ej_tup (aj_cons ej_int (aj_cons ej_int aj_nil)) rfl) (aj_cons (ej_tup (aj_cons (ej_v (L2.pv 2)) (aj_cons (ej_add rfl (ej_v (L2.pv 2)) ej_int) (aj_cons (ej_add rfl (ej_v (L2.pv 2)) ej_int) aj_nil))) rfl) aj_nil))))))) sjs_nil)
    (sjs_one (sj_ret ej_bl)))))))
    )
theorem sc_law : L2.FnScope ["script", "box", "turn", "kind", "one", "other", "place", "e", "k"] ["script"] (L2.defScope (topS 23)) := ⟨rfl, rfl, rfl, by decide +kernel, rfl, by decide +kernel, by decide +kernel⟩
theorem ok_law {P : Program} {w : World} {K : PySem.W.Frag} {mg : Str → Option Value} {base : Heap} (a_law : At K mg "law" "law" (topS 23) ["script"]) (d__law_box : Def P w K mg base 34 "_law_box" ["script", "k"] [false, false] F__law_box) (d__law_take : Def P w K mg base 33 "_law_take" ["box", "many"] [true, false] F__law_take) (d__law_fit : Def P w K mg base 33 "_law_fit" ["top", "bottom"] [false, false] F__law_fit) (d__law_made : Def P w K mg base 33 "_law_made" ["kind", "one", "other", "place"] [false, false, false, false] F__law_made) (k_Crowd_KnockError : KN K mg "Crowd" "KnockError" true) (k_NoBody_KnockError : KN K mg "NoBody" "KnockError" true) (k_NoBox_KnockError : KN K mg "NoBox" "KnockError" true) (k_NoMoment_KnockError : KN K mg "NoMoment" "KnockError" true) (k_NoNumber_KnockError : KN K mg "NoNumber" "KnockError" true) (k_NoRow_KnockError : KN K mg "NoRow" "KnockError" true) (k_NoRun_KnockError : KN K mg "NoRun" "KnockError" true) (k_NoShare_KnockError : KN K mg "NoShare" "KnockError" true) (k_NoText_KnockError : KN K mg "NoText" "KnockError" true) (k_NoWorld_KnockError : KN K mg "NoWorld" "KnockError" true) (k_Overlap_KnockError : KN K mg "Overlap" "KnockError" true) (k_TooMany_KnockError : KN K mg "TooMany" "KnockError" true) (k_Crowd_ValueError : KN K mg "Crowd" "ValueError" true) (k_NoBody_ValueError : KN K mg "NoBody" "ValueError" true) (k_NoBox_ValueError : KN K mg "NoBox" "ValueError" true) (k_NoMoment_ValueError : KN K mg "NoMoment" "ValueError" true) (k_NoNumber_ValueError : KN K mg "NoNumber" "ValueError" true) (k_NoRow_ValueError : KN K mg "NoRow" "ValueError" true) (k_NoRun_ValueError : KN K mg "NoRun" "ValueError" true) (k_NoShare_ValueError : KN K mg "NoShare" "ValueError" true) (k_NoText_ValueError : KN K mg "NoText" "ValueError" true) (k_NoWorld_ValueError : KN K mg "NoWorld" "ValueError" true) (k_Overlap_ValueError : KN K mg "Overlap" "ValueError" true) (k_TooMany_ValueError : KN K mg "TooMany" "ValueError" true) (d__law_marks : Def P w K mg base 33 "_law_marks" ["e"] [false] F__law_marks) (d__law_keeps : Def P w K mg base 33 "_law_keeps" ["e", "kind", "one", "other", "place"] [false, false, false, false, false] F__law_keeps) (z_isinstance : mg "isinstance" = none) (z_range : mg "range" = none) :
  DefR P w K mg base 35 "law" ["script"] [false] (defF [false] 9 sf_law) :=
  DefR.mk' (k := 34) a_law sc_law rfl (by decide) (fun f cdv A outer s H E Z H0 io zd zi s0 hr =>
    ((sjs_cons (sj_set (i := 1) (fz := false) (ej_call d__law_box (by decide) rfl rfl hr (by decide) (by rfl) (L2.takes_of rfl rfl rfl rfl) (aj_cons (ej_v (L2.pv 0)) (aj_cons ej_int aj_nil))) (nm rfl) sc_law.nd rfl (.inl rfl))
    (sjs_cons (sj_for (L2.passes_of rfl) rfl (ij_range1 (by rfl) z_range (aj_cons ej_int aj_nil)) (gj_name (nm rfl) sc_law.nd rfl (.inl rfl)) (sjs_cons (sj_set (i := 3) (fz := true) (ej_mod (ej_add rfl (ej_callI (i := 1) (kk := 0) (mm := 1) d__law_take rfl rfl rfl hr (by decide) (by rfl) (L2.takes_of rfl rfl rfl rfl) (aji_here (L2.pv 1) (aj_cons ej_int aj_nil))) (ej_v (L2.pv 2))) ej_int) (nm rfl) sc_law.nd rfl (.inr rfl))
    (sjs_cons (sj_par (i := 4) (j := 5) (nm rfl) (nm rfl) rfl sc_law.nd rfl rfl (by decide) rfl rfl (aj_cons (ej_callI (i := 1) (kk := 0) (mm := 1) d__law_take rfl rfl rfl hr (by decide) (by rfl) (L2.takes_of rfl rfl rfl rfl) (aji_here (L2.pv 1) (aj_cons ej_int aj_nil))) (aj_cons (ej_callI (i := 1) (kk := 0) (mm := 1) d__law_take rfl rfl rfl hr (by decide) (by rfl) (L2.takes_of rfl rfl rfl rfl) (aji_here (L2.pv 1) (aj_cons (ej_pow ej_int ej_int) aj_nil))) aj_nil)) rfl)
    (sjs_cons (sj_set (i := 6) (fz := true) (ej_call d__law_fit (by decide) rfl rfl hr (by decide) (by rfl) (L2.takes_of rfl rfl rfl rfl) (aj_cons (ej_sub (ej_callI (i := 1) (kk := 0) (mm := 1) d__law_take rfl rfl rfl hr (by decide) (by rfl) (L2.takes_of rfl rfl rfl rfl) (aji_here (L2.pv 1) (aj_cons ej_int aj_nil))) ej_int) (aj_cons (ej_add rfl ej_int (ej_callI (i := 1) (kk := 0) (mm := 1) d__law_take rfl rfl rfl hr (by decide) (by rfl) (L2.takes_of rfl rfl rfl rfl) (aji_here (L2.pv 1) (aj_cons ej_int aj_nil)))) aj_nil))) (nm rfl) sc_law.nd rfl (.inl rfl))
    (sjs_cons (sj_set (i := 7) (fz := true) (ej_call d__law_made (by decide) rfl rfl hr (by decide) (by rfl) (L2.takes_of rfl rfl rfl rfl) (aj_cons (ej_v (L2.pv 3)) (aj_cons (ej_v (L2.pv 4)) (aj_cons (ej_v (L2.pv 5)) (aj_cons (ej_v (L2.pv 6)) aj_nil))))) (nm rfl) sc_law.nd rfl (.inl rfl))
    (sjs_cons (sj_if ((wj_or (tj_not (tj_val (ej_isv (L := [("Crowd", true), ("NoBody", true), ("NoBox", true), ("NoMoment", true), ("NoNumber", true), ("NoRow", true), ("NoRun", true), ("NoShare", true), ("NoText", true), ("NoWorld", true), ("Overlap", true), ("TooMany", true)]) ("Crowd", true) _ rfl rfl rfl (by rfl) z_isinstance (by decide +kernel) (fm1 k_Crowd_KnockError (fm1 k_NoBody_KnockError (fm1 k_NoBox_KnockError (fm1 k_NoMoment_KnockError (fm1 k_NoNumber_KnockError (fm1 k_NoRow_KnockError (fm1 k_NoRun_KnockError (fm1 k_NoShare_KnockError (fm1 k_NoText_KnockError (fm1 k_NoWorld_KnockError (fm1 k_Overlap_KnockError (fm1 k_TooMany_KnockError fm0)))))))))))) (L2.pv 7) (by rfl)))) (wj_or1 (tj_not (tj_val (ej_isv (L := [("Crowd", true), ("NoBody", true), ("NoBox", true), ("NoMoment", true), ("NoNumber", true), ("NoRow", true), ("NoRun", true), ("NoShare", true), ("NoText", true), ("NoWorld", true), ("Overlap", true), ("TooMany", true)]) ("Crowd", true) _ rfl rfl rfl (by rfl) z_isinstance (by decide +kernel) (fm1 k_Crowd_ValueError (fm1 k_NoBody_ValueError (fm1 k_NoBox_ValueError (fm1 k_NoMoment_ValueError (fm1 k_NoNumber_ValueError (fm1 k_NoRow_ValueError (fm1 k_NoRun_ValueError (fm1 k_NoShare_ValueError (fm1 k_NoText_ValueError (fm1 k_NoWorld_ValueError (fm1 k_Overlap_ValueError (fm1 k_TooMany_ValueError fm0)))))))))))) (L2.pv 7) (by rfl))))))).tj (sjs_one (sj_ret ej_bl)) sjs_nil)
    (sjs_one (sj_if ((wj_or (tj_ne rfl (u128 hr) (ej_call d__law_marks (by decide) rfl rfl hr (by decide) (by rfl) (L2.takes_of rfl rfl rfl rfl) (aj_cons (ej_v (L2.pv 7)) aj_nil)) (ej_lc (own := [("k", 8)]) rfl sc_law.nd (by first | (simp; done) | (simp [frB, frOf, maskAt]; done)) (ij_range1 (by rfl) z_range (aj_cons ej_int aj_nil)) (blk_ok (N := ["script", "box", "turn", "kind", "one", "other", "place", "e", "k"]) (sc := L2.defScope (topS 23)) rfl rfl (by decide +kernel)) (fun _ _ _ _ _ => (gw_name (by simp) (nm rfl) sc_law.nd rfl (.inl rfl) (.inr rfl))) (fun _ _ _ _ _ => tjs_nil) (fun _ _ _ _ _ => (ej_eq rfl (u128 hr) (ej_v (L2.pv 8)) (ej_v (L2.pv 3)))))) (wj_or1 (tj_not (tj_val (ej_call d__law_keeps (by decide) rfl rfl hr (by decide) (by rfl) (L2.takes_of rfl rfl rfl rfl) (aj_cons (ej_v (L2.pv 7)) (aj_cons (ej_v (L2.pv 3)) (aj_cons (ej_v (L2.pv 4)) (aj_cons (ej_v (L2.pv 5)) (aj_cons (ej_v (L2.pv 6)) aj_nil))))))))))).tj (sjs_one (sj_ret ej_bl)) sjs_nil))))))))
    (sjs_one (sj_ret ej_bl)))))
    )
theorem law_def {P : Program} {w : World} {K : PySem.W.Frag} {mg : Str → Option Value} (base : Heap) (a__law_cell : At K mg "_law_cell" "_law_cell" (topS 15) ["script", "k"]) (z_len : mg "len" = none) (a__law_mix : At K mg "_law_mix" "_law_mix" (topS 16) ["cell", "k"]) (a__law_box : At K mg "_law_box" "_law_box" (topS 17) ["script", "k"]) (y_K : PyK P K mg) (z_range : mg "range" = none) (a__law_fit : At K mg "_law_fit" "_law_fit" (topS 19) ["top", "bottom"]) (z_abs : mg "abs" = none) (a__law_made : At K mg "_law_made" "_law_made" (topS 21) ["kind", "one", "other", "place"]) (x_NoNumber : XCls K mg "NoNumber") (x_NoBody : XCls K mg "NoBody") (x_NoMoment : XCls K mg "NoMoment") (x_NoShare : XCls K mg "NoShare") (x_TooMany : XCls K mg "TooMany") (x_NoRow : XCls K mg "NoRow") (x_NoRun : XCls K mg "NoRun") (x_NoBox : XCls K mg "NoBox") (i_NoWorld : XIni P w K mg base 1 "NoWorld" ["at"]) (i_NoText : XIni P w K mg base 1 "NoText" ["line"]) (i_Overlap : XIni P w K mg base 1 "Overlap" ["one", "other"]) (i_Crowd : XIni P w K mg base 1 "Crowd" ["moment", "place", "numbers"]) (a__law_take : At K mg "_law_take" "_law_take" (topS 18) ["box", "many"]) (z_divmod : mg "divmod" = none) (a__law_marks : At K mg "_law_marks" "_law_marks" (topS 20) ["e"]) (k_Crowd_NoNumber : KN K mg "Crowd" "NoNumber" false) (k_NoBody_NoNumber : KN K mg "NoBody" "NoNumber" false) (k_NoBox_NoNumber : KN K mg "NoBox" "NoNumber" false) (k_NoMoment_NoNumber : KN K mg "NoMoment" "NoNumber" false) (k_NoNumber_NoNumber : KN K mg "NoNumber" "NoNumber" true) (k_NoRow_NoNumber : KN K mg "NoRow" "NoNumber" false) (k_NoRun_NoNumber : KN K mg "NoRun" "NoNumber" false) (k_NoShare_NoNumber : KN K mg "NoShare" "NoNumber" false) (k_NoText_NoNumber : KN K mg "NoText" "NoNumber" false) (k_NoWorld_NoNumber : KN K mg "NoWorld" "NoNumber" false) (k_Overlap_NoNumber : KN K mg "Overlap" "NoNumber" false) (k_TooMany_NoNumber : KN K mg "TooMany" "NoNumber" false) (k_Crowd_NoBody : KN K mg "Crowd" "NoBody" false) (k_NoBody_NoBody : KN K mg "NoBody" "NoBody" true) (k_NoBox_NoBody : KN K mg "NoBox" "NoBody" false) (k_NoMoment_NoBody : KN K mg "NoMoment" "NoBody" false) (k_NoNumber_NoBody : KN K mg "NoNumber" "NoBody" false) (k_NoRow_NoBody : KN K mg "NoRow" "NoBody" false) (k_NoRun_NoBody : KN K mg "NoRun" "NoBody" false) (k_NoShare_NoBody : KN K mg "NoShare" "NoBody" false) (k_NoText_NoBody : KN K mg "NoText" "NoBody" false) (k_NoWorld_NoBody : KN K mg "NoWorld" "NoBody" false) (k_Overlap_NoBody : KN K mg "Overlap" "NoBody" false) (k_TooMany_NoBody : KN K mg "TooMany" "NoBody" false) (k_Crowd_NoMoment : KN K mg "Crowd" "NoMoment" false) (k_NoBody_NoMoment : KN K mg "NoBody" "NoMoment" false) (k_NoBox_NoMoment : KN K mg "NoBox" "NoMoment" false) (k_NoMoment_NoMoment : KN K mg "NoMoment" "NoMoment" true) (k_NoNumber_NoMoment : KN K mg "NoNumber" "NoMoment" false) (k_NoRow_NoMoment : KN K mg "NoRow" "NoMoment" false) (k_NoRun_NoMoment : KN K mg "NoRun" "NoMoment" false) (k_NoShare_NoMoment : KN K mg "NoShare" "NoMoment" false) (k_NoText_NoMoment : KN K mg "NoText" "NoMoment" false) (k_NoWorld_NoMoment : KN K mg "NoWorld" "NoMoment" false) (k_Overlap_NoMoment : KN K mg "Overlap" "NoMoment" false) (k_TooMany_NoMoment : KN K mg "TooMany" "NoMoment" false) (k_Crowd_NoShare : KN K mg "Crowd" "NoShare" false) (k_NoBody_NoShare : KN K mg "NoBody" "NoShare" false) (k_NoBox_NoShare : KN K mg "NoBox" "NoShare" false) (k_NoMoment_NoShare : KN K mg "NoMoment" "NoShare" false) (k_NoNumber_NoShare : KN K mg "NoNumber" "NoShare" false) (k_NoRow_NoShare : KN K mg "NoRow" "NoShare" false) (k_NoRun_NoShare : KN K mg "NoRun" "NoShare" false) (k_NoShare_NoShare : KN K mg "NoShare" "NoShare" true) (k_NoText_NoShare : KN K mg "NoText" "NoShare" false) (k_NoWorld_NoShare : KN K mg "NoWorld" "NoShare" false) (k_Overlap_NoShare : KN K mg "Overlap" "NoShare" false) (k_TooMany_NoShare : KN K mg "TooMany" "NoShare" false) (k_Crowd_TooMany : KN K mg "Crowd" "TooMany" false) (k_NoBody_TooMany : KN K mg "NoBody" "TooMany" false) (k_NoBox_TooMany : KN K mg "NoBox" "TooMany" false) (k_NoMoment_TooMany : KN K mg "NoMoment" "TooMany" false) (k_NoNumber_TooMany : KN K mg "NoNumber" "TooMany" false) (k_NoRow_TooMany : KN K mg "NoRow" "TooMany" false) (k_NoRun_TooMany : KN K mg "NoRun" "TooMany" false) (k_NoShare_TooMany : KN K mg "NoShare" "TooMany" false) (k_NoText_TooMany : KN K mg "NoText" "TooMany" false) (k_NoWorld_TooMany : KN K mg "NoWorld" "TooMany" false) (k_Overlap_TooMany : KN K mg "Overlap" "TooMany" false) (k_TooMany_TooMany : KN K mg "TooMany" "TooMany" true) (k_Crowd_NoRow : KN K mg "Crowd" "NoRow" false) (k_NoBody_NoRow : KN K mg "NoBody" "NoRow" false) (k_NoBox_NoRow : KN K mg "NoBox" "NoRow" false) (k_NoMoment_NoRow : KN K mg "NoMoment" "NoRow" false) (k_NoNumber_NoRow : KN K mg "NoNumber" "NoRow" false) (k_NoRow_NoRow : KN K mg "NoRow" "NoRow" true) (k_NoRun_NoRow : KN K mg "NoRun" "NoRow" false) (k_NoShare_NoRow : KN K mg "NoShare" "NoRow" false) (k_NoText_NoRow : KN K mg "NoText" "NoRow" false) (k_NoWorld_NoRow : KN K mg "NoWorld" "NoRow" false) (k_Overlap_NoRow : KN K mg "Overlap" "NoRow" false) (k_TooMany_NoRow : KN K mg "TooMany" "NoRow" false) (k_Crowd_NoRun : KN K mg "Crowd" "NoRun" false) (k_NoBody_NoRun : KN K mg "NoBody" "NoRun" false) (k_NoBox_NoRun : KN K mg "NoBox" "NoRun" false) (k_NoMoment_NoRun : KN K mg "NoMoment" "NoRun" false) (k_NoNumber_NoRun : KN K mg "NoNumber" "NoRun" false) (k_NoRow_NoRun : KN K mg "NoRow" "NoRun" false) (k_NoRun_NoRun : KN K mg "NoRun" "NoRun" true) (k_NoShare_NoRun : KN K mg "NoShare" "NoRun" false) (k_NoText_NoRun : KN K mg "NoText" "NoRun" false) (k_NoWorld_NoRun : KN K mg "NoWorld" "NoRun" false) (k_Overlap_NoRun : KN K mg "Overlap" "NoRun" false) (k_TooMany_NoRun : KN K mg "TooMany" "NoRun" false) (k_Crowd_NoBox : KN K mg "Crowd" "NoBox" false) (k_NoBody_NoBox : KN K mg "NoBody" "NoBox" false) (k_NoBox_NoBox : KN K mg "NoBox" "NoBox" true) (k_NoMoment_NoBox : KN K mg "NoMoment" "NoBox" false) (k_NoNumber_NoBox : KN K mg "NoNumber" "NoBox" false) (k_NoRow_NoBox : KN K mg "NoRow" "NoBox" false) (k_NoRun_NoBox : KN K mg "NoRun" "NoBox" false) (k_NoShare_NoBox : KN K mg "NoShare" "NoBox" false) (k_NoText_NoBox : KN K mg "NoText" "NoBox" false) (k_NoWorld_NoBox : KN K mg "NoWorld" "NoBox" false) (k_Overlap_NoBox : KN K mg "Overlap" "NoBox" false) (k_TooMany_NoBox : KN K mg "TooMany" "NoBox" false) (k_Crowd_NoWorld : KN K mg "Crowd" "NoWorld" false) (k_NoBody_NoWorld : KN K mg "NoBody" "NoWorld" false) (k_NoBox_NoWorld : KN K mg "NoBox" "NoWorld" false) (k_NoMoment_NoWorld : KN K mg "NoMoment" "NoWorld" false) (k_NoNumber_NoWorld : KN K mg "NoNumber" "NoWorld" false) (k_NoRow_NoWorld : KN K mg "NoRow" "NoWorld" false) (k_NoRun_NoWorld : KN K mg "NoRun" "NoWorld" false) (k_NoShare_NoWorld : KN K mg "NoShare" "NoWorld" false) (k_NoText_NoWorld : KN K mg "NoText" "NoWorld" false) (k_NoWorld_NoWorld : KN K mg "NoWorld" "NoWorld" true) (k_Overlap_NoWorld : KN K mg "Overlap" "NoWorld" false) (k_TooMany_NoWorld : KN K mg "TooMany" "NoWorld" false) (k_Crowd_NoText : KN K mg "Crowd" "NoText" false) (k_NoBody_NoText : KN K mg "NoBody" "NoText" false) (k_NoBox_NoText : KN K mg "NoBox" "NoText" false) (k_NoMoment_NoText : KN K mg "NoMoment" "NoText" false) (k_NoNumber_NoText : KN K mg "NoNumber" "NoText" false) (k_NoRow_NoText : KN K mg "NoRow" "NoText" false) (k_NoRun_NoText : KN K mg "NoRun" "NoText" false) (k_NoShare_NoText : KN K mg "NoShare" "NoText" false) (k_NoText_NoText : KN K mg "NoText" "NoText" true) (k_NoWorld_NoText : KN K mg "NoWorld" "NoText" false) (k_Overlap_NoText : KN K mg "Overlap" "NoText" false) (k_TooMany_NoText : KN K mg "TooMany" "NoText" false) (k_Crowd_Overlap : KN K mg "Crowd" "Overlap" false) (k_NoBody_Overlap : KN K mg "NoBody" "Overlap" false) (k_NoBox_Overlap : KN K mg "NoBox" "Overlap" false) (k_NoMoment_Overlap : KN K mg "NoMoment" "Overlap" false) (k_NoNumber_Overlap : KN K mg "NoNumber" "Overlap" false) (k_NoRow_Overlap : KN K mg "NoRow" "Overlap" false) (k_NoRun_Overlap : KN K mg "NoRun" "Overlap" false) (k_NoShare_Overlap : KN K mg "NoShare" "Overlap" false) (k_NoText_Overlap : KN K mg "NoText" "Overlap" false) (k_NoWorld_Overlap : KN K mg "NoWorld" "Overlap" false) (k_Overlap_Overlap : KN K mg "Overlap" "Overlap" true) (k_TooMany_Overlap : KN K mg "TooMany" "Overlap" false) (k_Crowd_Crowd : KN K mg "Crowd" "Crowd" true) (k_NoBody_Crowd : KN K mg "NoBody" "Crowd" false) (k_NoBox_Crowd : KN K mg "NoBox" "Crowd" false) (k_NoMoment_Crowd : KN K mg "NoMoment" "Crowd" false) (k_NoNumber_Crowd : KN K mg "NoNumber" "Crowd" false) (k_NoRow_Crowd : KN K mg "NoRow" "Crowd" false) (k_NoRun_Crowd : KN K mg "NoRun" "Crowd" false) (k_NoShare_Crowd : KN K mg "NoShare" "Crowd" false) (k_NoText_Crowd : KN K mg "NoText" "Crowd" false) (k_NoWorld_Crowd : KN K mg "NoWorld" "Crowd" false) (k_Overlap_Crowd : KN K mg "Overlap" "Crowd" false) (k_TooMany_Crowd : KN K mg "TooMany" "Crowd" false) (z_isinstance : mg "isinstance" = none) (a__law_keeps : At K mg "_law_keeps" "_law_keeps" (topS 22) ["e", "kind", "one", "other", "place"]) (f_NoWorld_at : XFl K mg "NoWorld" "at") (f_NoText_line : XFl K mg "NoText" "line") (f_Overlap_one : XFl K mg "Overlap" "one") (f_Overlap_other : XFl K mg "Overlap" "other") (f_Crowd_moment : XFl K mg "Crowd" "moment") (f_Crowd_place : XFl K mg "Crowd" "place") (f_Crowd_numbers : XFl K mg "Crowd" "numbers") (a_law : At K mg "law" "law" (topS 23) ["script"]) (k_Crowd_KnockError : KN K mg "Crowd" "KnockError" true) (k_NoBody_KnockError : KN K mg "NoBody" "KnockError" true) (k_NoBox_KnockError : KN K mg "NoBox" "KnockError" true) (k_NoMoment_KnockError : KN K mg "NoMoment" "KnockError" true) (k_NoNumber_KnockError : KN K mg "NoNumber" "KnockError" true) (k_NoRow_KnockError : KN K mg "NoRow" "KnockError" true) (k_NoRun_KnockError : KN K mg "NoRun" "KnockError" true) (k_NoShare_KnockError : KN K mg "NoShare" "KnockError" true) (k_NoText_KnockError : KN K mg "NoText" "KnockError" true) (k_NoWorld_KnockError : KN K mg "NoWorld" "KnockError" true) (k_Overlap_KnockError : KN K mg "Overlap" "KnockError" true) (k_TooMany_KnockError : KN K mg "TooMany" "KnockError" true) (k_Crowd_ValueError : KN K mg "Crowd" "ValueError" true) (z_ValueError : mg "ValueError" = none) (k_NoBody_ValueError : KN K mg "NoBody" "ValueError" true) (k_NoBox_ValueError : KN K mg "NoBox" "ValueError" true) (k_NoMoment_ValueError : KN K mg "NoMoment" "ValueError" true) (k_NoNumber_ValueError : KN K mg "NoNumber" "ValueError" true) (k_NoRow_ValueError : KN K mg "NoRow" "ValueError" true) (k_NoRun_ValueError : KN K mg "NoRun" "ValueError" true) (k_NoShare_ValueError : KN K mg "NoShare" "ValueError" true) (k_NoText_ValueError : KN K mg "NoText" "ValueError" true) (k_NoWorld_ValueError : KN K mg "NoWorld" "ValueError" true) (k_Overlap_ValueError : KN K mg "Overlap" "ValueError" true) (k_TooMany_ValueError : KN K mg "TooMany" "ValueError" true) :
  Def P w K mg base 35 "law" ["script"] [false] F_law := by
  have d__law_cell := (ok__law_cell (P := P) (w := w) (base := base) a__law_cell z_len).def m__law_cell to__law_cell defF_len
  have d__law_mix := (ok__law_mix (P := P) (w := w) (base := base) a__law_mix ).def m__law_mix to__law_mix defF_len
  have d__law_box := (ok__law_box (P := P) (w := w) (base := base) a__law_box d__law_cell y_K d__law_mix z_range).def m__law_box to__law_box defF_len
  have d__law_fit := (ok__law_fit (P := P) (w := w) (base := base) a__law_fit y_K z_abs).def m__law_fit to__law_fit defF_len
  have d__law_made := (ok__law_made (P := P) (w := w) (base := base) a__law_made x_NoNumber x_NoBody x_NoMoment x_NoShare x_TooMany x_NoRow x_NoRun x_NoBox i_NoWorld i_NoText i_Overlap i_Crowd).def m__law_made to__law_made defF_len
  have d__law_take := (ok__law_take (P := P) (w := w) (base := base) a__law_take y_K z_divmod).def m__law_take to__law_take defF_len
  have d__law_marks := (ok__law_marks (P := P) (w := w) (base := base) a__law_marks k_Crowd_NoNumber k_NoBody_NoNumber k_NoBox_NoNumber k_NoMoment_NoNumber k_NoNumber_NoNumber k_NoRow_NoNumber k_NoRun_NoNumber k_NoShare_NoNumber k_NoText_NoNumber k_NoWorld_NoNumber k_Overlap_NoNumber k_TooMany_NoNumber k_Crowd_NoBody k_NoBody_NoBody k_NoBox_NoBody k_NoMoment_NoBody k_NoNumber_NoBody k_NoRow_NoBody k_NoRun_NoBody k_NoShare_NoBody k_NoText_NoBody k_NoWorld_NoBody k_Overlap_NoBody k_TooMany_NoBody k_Crowd_NoMoment k_NoBody_NoMoment k_NoBox_NoMoment k_NoMoment_NoMoment k_NoNumber_NoMoment k_NoRow_NoMoment k_NoRun_NoMoment k_NoShare_NoMoment k_NoText_NoMoment k_NoWorld_NoMoment k_Overlap_NoMoment k_TooMany_NoMoment k_Crowd_NoShare k_NoBody_NoShare k_NoBox_NoShare k_NoMoment_NoShare k_NoNumber_NoShare k_NoRow_NoShare k_NoRun_NoShare k_NoShare_NoShare k_NoText_NoShare k_NoWorld_NoShare k_Overlap_NoShare k_TooMany_NoShare k_Crowd_TooMany k_NoBody_TooMany k_NoBox_TooMany k_NoMoment_TooMany k_NoNumber_TooMany k_NoRow_TooMany k_NoRun_TooMany k_NoShare_TooMany k_NoText_TooMany k_NoWorld_TooMany k_Overlap_TooMany k_TooMany_TooMany k_Crowd_NoRow k_NoBody_NoRow k_NoBox_NoRow k_NoMoment_NoRow k_NoNumber_NoRow k_NoRow_NoRow k_NoRun_NoRow k_NoShare_NoRow k_NoText_NoRow k_NoWorld_NoRow k_Overlap_NoRow k_TooMany_NoRow k_Crowd_NoRun k_NoBody_NoRun k_NoBox_NoRun k_NoMoment_NoRun k_NoNumber_NoRun k_NoRow_NoRun k_NoRun_NoRun k_NoShare_NoRun k_NoText_NoRun k_NoWorld_NoRun k_Overlap_NoRun k_TooMany_NoRun k_Crowd_NoBox k_NoBody_NoBox k_NoBox_NoBox k_NoMoment_NoBox k_NoNumber_NoBox k_NoRow_NoBox k_NoRun_NoBox k_NoShare_NoBox k_NoText_NoBox k_NoWorld_NoBox k_Overlap_NoBox k_TooMany_NoBox k_Crowd_NoWorld k_NoBody_NoWorld k_NoBox_NoWorld k_NoMoment_NoWorld k_NoNumber_NoWorld k_NoRow_NoWorld k_NoRun_NoWorld k_NoShare_NoWorld k_NoText_NoWorld k_NoWorld_NoWorld k_Overlap_NoWorld k_TooMany_NoWorld k_Crowd_NoText k_NoBody_NoText k_NoBox_NoText k_NoMoment_NoText k_NoNumber_NoText k_NoRow_NoText k_NoRun_NoText k_NoShare_NoText k_NoText_NoText k_NoWorld_NoText k_Overlap_NoText k_TooMany_NoText k_Crowd_Overlap k_NoBody_Overlap k_NoBox_Overlap k_NoMoment_Overlap k_NoNumber_Overlap k_NoRow_Overlap k_NoRun_Overlap k_NoShare_Overlap k_NoText_Overlap k_NoWorld_Overlap k_Overlap_Overlap k_TooMany_Overlap k_Crowd_Crowd k_NoBody_Crowd k_NoBox_Crowd k_NoMoment_Crowd k_NoNumber_Crowd k_NoRow_Crowd k_NoRun_Crowd k_NoShare_Crowd k_NoText_Crowd k_NoWorld_Crowd k_Overlap_Crowd k_TooMany_Crowd z_isinstance).def m__law_marks to__law_marks defF_len
  have d__law_keeps := (ok__law_keeps (P := P) (w := w) (base := base) a__law_keeps f_NoWorld_at f_NoText_line f_Overlap_one f_Overlap_other f_Crowd_moment f_Crowd_place f_Crowd_numbers).def m__law_keeps to__law_keeps defF_len
  have d_law := (ok_law (P := P) (w := w) (base := base) a_law d__law_box d__law_take d__law_fit d__law_made k_Crowd_KnockError k_NoBody_KnockError k_NoBox_KnockError k_NoMoment_KnockError k_NoNumber_KnockError k_NoRow_KnockError k_NoRun_KnockError k_NoShare_KnockError k_NoText_KnockError k_NoWorld_KnockError k_Overlap_KnockError k_TooMany_KnockError k_Crowd_ValueError k_NoBody_ValueError k_NoBox_ValueError k_NoMoment_ValueError k_NoNumber_ValueError k_NoRow_ValueError k_NoRun_ValueError k_NoShare_ValueError k_NoText_ValueError k_NoWorld_ValueError k_Overlap_ValueError k_TooMany_ValueError d__law_marks d__law_keeps z_isinstance z_range).def m_law to_law defF_len
  exact d_law
abbrev stI_NoWorld : Stmt := methS (topS 10) 0
theorem scI_NoWorld : L2.FnScope ["self", "at"] ["self", "at"] (L2.defScope stI_NoWorld) := ⟨rfl, rfl, rfl, by decide +kernel, rfl, by decide +kernel, by decide +kernel⟩
def ddI_NoWorld : He.DefD := ⟨("NoWorld", some "__init__"), "__init__", "NoWorld.__init__", L2.defArgs stI_NoWorld, L2.defBody stI_NoWorld, L2.defScope stI_NoWorld, [], []⟩
abbrev stI_NoText : Stmt := methS (topS 11) 0
theorem scI_NoText : L2.FnScope ["self", "line"] ["self", "line"] (L2.defScope stI_NoText) := ⟨rfl, rfl, rfl, by decide +kernel, rfl, by decide +kernel, by decide +kernel⟩
def ddI_NoText : He.DefD := ⟨("NoText", some "__init__"), "__init__", "NoText.__init__", L2.defArgs stI_NoText, L2.defBody stI_NoText, L2.defScope stI_NoText, [], []⟩
abbrev stI_Overlap : Stmt := methS (topS 12) 0
theorem scI_Overlap : L2.FnScope ["self", "one", "other"] ["self", "one", "other"] (L2.defScope stI_Overlap) := ⟨rfl, rfl, rfl, by decide +kernel, rfl, by decide +kernel, by decide +kernel⟩
def ddI_Overlap : He.DefD := ⟨("Overlap", some "__init__"), "__init__", "Overlap.__init__", L2.defArgs stI_Overlap, L2.defBody stI_Overlap, L2.defScope stI_Overlap, [], []⟩
abbrev stI_Crowd : Stmt := methS (topS 13) 0
theorem scI_Crowd : L2.FnScope ["self", "moment", "place", "numbers"] ["self", "moment", "place", "numbers"] (L2.defScope stI_Crowd) := ⟨rfl, rfl, rfl, by decide +kernel, rfl, by decide +kernel, by decide +kernel⟩
def ddI_Crowd : He.DefD := ⟨("Crowd", some "__init__"), "__init__", "Crowd.__init__", L2.defArgs stI_Crowd, L2.defBody stI_Crowd, L2.defScope stI_Crowd, [], []⟩
def dd__law_cell : He.DefD := ⟨("_law_cell", none), "_law_cell", "_law_cell", L2.defArgs (topS 15), L2.defBody (topS 15), L2.defScope (topS 15), [], []⟩
def dd__law_mix : He.DefD := ⟨("_law_mix", none), "_law_mix", "_law_mix", L2.defArgs (topS 16), L2.defBody (topS 16), L2.defScope (topS 16), [], []⟩
def dd__law_box : He.DefD := ⟨("_law_box", none), "_law_box", "_law_box", L2.defArgs (topS 17), L2.defBody (topS 17), L2.defScope (topS 17), [], []⟩
def dd__law_fit : He.DefD := ⟨("_law_fit", none), "_law_fit", "_law_fit", L2.defArgs (topS 19), L2.defBody (topS 19), L2.defScope (topS 19), [], []⟩
def dd__law_made : He.DefD := ⟨("_law_made", none), "_law_made", "_law_made", L2.defArgs (topS 21), L2.defBody (topS 21), L2.defScope (topS 21), [], []⟩
def dd__law_take : He.DefD := ⟨("_law_take", none), "_law_take", "_law_take", L2.defArgs (topS 18), L2.defBody (topS 18), L2.defScope (topS 18), [], []⟩
def dd__law_marks : He.DefD := ⟨("_law_marks", none), "_law_marks", "_law_marks", L2.defArgs (topS 20), L2.defBody (topS 20), L2.defScope (topS 20), [], []⟩
def dd__law_keeps : He.DefD := ⟨("_law_keeps", none), "_law_keeps", "_law_keeps", L2.defArgs (topS 22), L2.defBody (topS 22), L2.defScope (topS 22), [], []⟩
def dd_law : He.DefD := ⟨("law", none), "law", "law", L2.defArgs (topS 23), L2.defBody (topS 23), L2.defScope (topS 23), [], []⟩
def fn : List He.DefD := [dd__law_cell, dd__law_mix, dd__law_box, dd__law_fit, dd__law_made, dd__law_take, dd__law_marks, dd__law_keeps, dd_law, ddI_NoWorld, ddI_NoText, ddI_Overlap, ddI_Crowd]
def gs : List (Str × D) := []
def xb : List Xb := [.oex "NoWorld", .kbs "KnockError", .oex "NoText", .oex "Overlap", .oex "Crowd"]
def xa : List Xa := [.xf "NoWorld" "at", .xf "NoText" "line", .xf "Overlap" "one", .xf "Overlap" "other", .xf "Crowd" "moment", .xf "Crowd" "place", .xf "Crowd" "numbers", .exc "Crowd", .own "Crowd" "NoNumber" false, .exc "NoBody", .own "NoBody" "NoNumber" false, .exc "NoBox", .own "NoBox" "NoNumber" false, .exc "NoMoment", .own "NoMoment" "NoNumber" false, .exc "NoNumber", .own "NoNumber" "NoNumber" true, .exc "NoRow", .own "NoRow" "NoNumber" false, .exc "NoRun", .own "NoRun" "NoNumber" false, .exc "NoShare", .own "NoShare" "NoNumber" false, .exc "NoText", .own "NoText" "NoNumber" false, .exc "NoWorld", .own "NoWorld" "NoNumber" false, .exc "Overlap", .own "Overlap" "NoNumber" false, .exc "TooMany", .own "TooMany" "NoNumber" false, .own "Crowd" "NoBody" false, .own "NoBody" "NoBody" true, .own "NoBox" "NoBody" false, .own "NoMoment" "NoBody" false, .own "NoNumber" "NoBody" false, .own "NoRow" "NoBody" false, .own "NoRun" "NoBody" false, .own "NoShare" "NoBody" false, .own "NoText" "NoBody" false, .own "NoWorld" "NoBody" false, .own "Overlap" "NoBody" false, .own "TooMany" "NoBody" false, .own "Crowd" "NoMoment" false, .own "NoBody" "NoMoment" false, .own "NoBox" "NoMoment" false, .own "NoMoment" "NoMoment" true, .own "NoNumber" "NoMoment" false, .own "NoRow" "NoMoment" false, .own "NoRun" "NoMoment" false, .own "NoShare" "NoMoment" false, .own "NoText" "NoMoment" false, .own "NoWorld" "NoMoment" false, .own "Overlap" "NoMoment" false, .own "TooMany" "NoMoment" false, .own "Crowd" "NoShare" false, .own "NoBody" "NoShare" false, .own "NoBox" "NoShare" false, .own "NoMoment" "NoShare" false, .own "NoNumber" "NoShare" false, .own "NoRow" "NoShare" false, .own "NoRun" "NoShare" false, .own "NoShare" "NoShare" true, .own "NoText" "NoShare" false, .own "NoWorld" "NoShare" false, .own "Overlap" "NoShare" false, .own "TooMany" "NoShare" false, .own "Crowd" "TooMany" false, .own "NoBody" "TooMany" false, .own "NoBox" "TooMany" false, .own "NoMoment" "TooMany" false, .own "NoNumber" "TooMany" false, .own "NoRow" "TooMany" false, .own "NoRun" "TooMany" false, .own "NoShare" "TooMany" false, .own "NoText" "TooMany" false, .own "NoWorld" "TooMany" false, .own "Overlap" "TooMany" false, .own "TooMany" "TooMany" true, .own "Crowd" "NoRow" false, .own "NoBody" "NoRow" false, .own "NoBox" "NoRow" false, .own "NoMoment" "NoRow" false, .own "NoNumber" "NoRow" false, .own "NoRow" "NoRow" true, .own "NoRun" "NoRow" false, .own "NoShare" "NoRow" false, .own "NoText" "NoRow" false, .own "NoWorld" "NoRow" false, .own "Overlap" "NoRow" false, .own "TooMany" "NoRow" false, .own "Crowd" "NoRun" false, .own "NoBody" "NoRun" false, .own "NoBox" "NoRun" false, .own "NoMoment" "NoRun" false, .own "NoNumber" "NoRun" false, .own "NoRow" "NoRun" false, .own "NoRun" "NoRun" true, .own "NoShare" "NoRun" false, .own "NoText" "NoRun" false, .own "NoWorld" "NoRun" false, .own "Overlap" "NoRun" false, .own "TooMany" "NoRun" false, .own "Crowd" "NoBox" false, .own "NoBody" "NoBox" false, .own "NoBox" "NoBox" true, .own "NoMoment" "NoBox" false, .own "NoNumber" "NoBox" false, .own "NoRow" "NoBox" false, .own "NoRun" "NoBox" false, .own "NoShare" "NoBox" false, .own "NoText" "NoBox" false, .own "NoWorld" "NoBox" false, .own "Overlap" "NoBox" false, .own "TooMany" "NoBox" false, .own "Crowd" "NoWorld" false, .own "NoBody" "NoWorld" false, .own "NoBox" "NoWorld" false, .own "NoMoment" "NoWorld" false, .own "NoNumber" "NoWorld" false, .own "NoRow" "NoWorld" false, .own "NoRun" "NoWorld" false, .own "NoShare" "NoWorld" false, .own "NoText" "NoWorld" false, .own "NoWorld" "NoWorld" true, .own "Overlap" "NoWorld" false, .own "TooMany" "NoWorld" false, .own "Crowd" "NoText" false, .own "NoBody" "NoText" false, .own "NoBox" "NoText" false, .own "NoMoment" "NoText" false, .own "NoNumber" "NoText" false, .own "NoRow" "NoText" false, .own "NoRun" "NoText" false, .own "NoShare" "NoText" false, .own "NoText" "NoText" true, .own "NoWorld" "NoText" false, .own "Overlap" "NoText" false, .own "TooMany" "NoText" false, .own "Crowd" "Overlap" false, .own "NoBody" "Overlap" false, .own "NoBox" "Overlap" false, .own "NoMoment" "Overlap" false, .own "NoNumber" "Overlap" false, .own "NoRow" "Overlap" false, .own "NoRun" "Overlap" false, .own "NoShare" "Overlap" false, .own "NoText" "Overlap" false, .own "NoWorld" "Overlap" false, .own "Overlap" "Overlap" true, .own "TooMany" "Overlap" false, .own "Crowd" "Crowd" true, .own "NoBody" "Crowd" false, .own "NoBox" "Crowd" false, .own "NoMoment" "Crowd" false, .own "NoNumber" "Crowd" false, .own "NoRow" "Crowd" false, .own "NoRun" "Crowd" false, .own "NoShare" "Crowd" false, .own "NoText" "Crowd" false, .own "NoWorld" "Crowd" false, .own "Overlap" "Crowd" false, .own "TooMany" "Crowd" false, .own "Crowd" "KnockError" true, .own "NoBody" "KnockError" true, .own "NoBox" "KnockError" true, .own "NoMoment" "KnockError" true, .own "NoNumber" "KnockError" true, .own "NoRow" "KnockError" true, .own "NoRun" "KnockError" true, .own "NoShare" "KnockError" true, .own "NoText" "KnockError" true, .own "NoWorld" "KnockError" true, .own "Overlap" "KnockError" true, .own "TooMany" "KnockError" true, .blt "Crowd" "ValueError" "ValueError" true, .blt "NoBody" "ValueError" "ValueError" true, .blt "NoBox" "ValueError" "ValueError" true, .blt "NoMoment" "ValueError" "ValueError" true, .blt "NoNumber" "ValueError" "ValueError" true, .blt "NoRow" "ValueError" "ValueError" true, .blt "NoRun" "ValueError" "ValueError" true, .blt "NoShare" "ValueError" "ValueError" true, .blt "NoText" "ValueError" "ValueError" true, .blt "NoWorld" "ValueError" "ValueError" true, .blt "Overlap" "ValueError" "ValueError" true, .blt "TooMany" "ValueError" "ValueError" true]
def fa : List He.Fa := [.glo "_law_cell", .glo "_law_mix", .glo "_law_box", .glo "_law_fit", .glo "_law_made", .glo "_law_take", .glo "_law_marks", .glo "_law_keeps", .glo "law", .free "len", .free "range", .free "abs", .free "divmod", .free "isinstance", .free "ValueError", .glo "__builtins__", .glo "NoNumber", .exc "NoNumber", .glo "NoBody", .exc "NoBody", .glo "NoMoment", .exc "NoMoment", .glo "NoShare", .exc "NoShare", .glo "TooMany", .exc "TooMany", .glo "NoRow", .exc "NoRow", .glo "NoRun", .exc "NoRun", .glo "NoBox", .exc "NoBox", .glo "NoWorld", .glo "KnockError", .glo "NoText", .glo "Overlap", .glo "Crowd"]
abbrev R : PySem.W.OpenRow := PySem.W.OpenLaw.row PySem.Challenge.rw_knockwright_k07_refusals_made
abbrev hk : PySem.W.Hook := hookZ 4 fa fn gs xa xb
def ob (s : PySem.W.SharedT) : AlZ := obsZ 4 fa fn gs xa xb (HandSHeadRun.getT s)
theorem ob_eq (s : PySem.W.SharedT) : ob s = hk.obs s.abs := obsZ_eq (HandSHeadRun.getT_eq s)
abbrev loose : List Str := [Str.ofString "KnockError", Str.ofString "NoNumber", Str.ofString "NoBody", Str.ofString "NoMoment", Str.ofString "NoShare", Str.ofString "TooMany", Str.ofString "NoRow", Str.ofString "NoRun", Str.ofString "NoBox", Str.ofString "NoWorld", Str.ofString "NoText", Str.ofString "Overlap", Str.ofString "Crowd", Str.ofString "_law_cell", Str.ofString "_law_mix", Str.ofString "_law_box", Str.ofString "_law_take", Str.ofString "_law_fit", Str.ofString "_law_marks", Str.ofString "_law_made", Str.ofString "_law_keeps"]
theorem run (w : World) : HandSHeadRun.RunEq R (PySem.W.view R.prog [23]) hk ob 6000 loose w := by
  intro os
  kernel_rfl
theorem law_all {w : World} {K : PySem.W.Frag} {h : Heap} {mg : Str → Option Value} {fa0 : Addr} (X : K.In h) (G : h.Ns mainGlobals mg) (hfa : mg "law" = some (.ref fa0)) (cz : SaysZ' fa fn gs xa xb K) :
    LamX.LawAtS PySem.Challenge.rw_knockwright_k07_refusals_made w K (L2.CX PySem.Challenge.pw_knockwright_k07_refusals_made w) 35 63 "script" mg fa0 h := by
  have c000 := cz.1
  have c00 := c000.1
  have c0 := c00.1
  have c := c0.1
  have a__law_cell : At K mg "_law_cell" "_law_cell" (topS 15) ["script", "k"] := by
    obtain ⟨fd, F⟩ := c.def_ 0 (d := dd__law_cell) rfl
    exact ⟨_, _, fd, [], [], F, He.glo_ok X G (c.fact 0 (f := .glo "_law_cell") rfl), L2.FunD.bindsN F fun _ _ _ _ _ _ us hl => match us, hl with | [_, _], _ => rfl⟩
  have a__law_mix : At K mg "_law_mix" "_law_mix" (topS 16) ["cell", "k"] := by
    obtain ⟨fd, F⟩ := c.def_ 1 (d := dd__law_mix) rfl
    exact ⟨_, _, fd, [], [], F, He.glo_ok X G (c.fact 1 (f := .glo "_law_mix") rfl), L2.FunD.bindsN F fun _ _ _ _ _ _ us hl => match us, hl with | [_, _], _ => rfl⟩
  have a__law_box : At K mg "_law_box" "_law_box" (topS 17) ["script", "k"] := by
    obtain ⟨fd, F⟩ := c.def_ 2 (d := dd__law_box) rfl
    exact ⟨_, _, fd, [], [], F, He.glo_ok X G (c.fact 2 (f := .glo "_law_box") rfl), L2.FunD.bindsN F fun _ _ _ _ _ _ us hl => match us, hl with | [_, _], _ => rfl⟩
  have a__law_fit : At K mg "_law_fit" "_law_fit" (topS 19) ["top", "bottom"] := by
    obtain ⟨fd, F⟩ := c.def_ 3 (d := dd__law_fit) rfl
    exact ⟨_, _, fd, [], [], F, He.glo_ok X G (c.fact 3 (f := .glo "_law_fit") rfl), L2.FunD.bindsN F fun _ _ _ _ _ _ us hl => match us, hl with | [_, _], _ => rfl⟩
  have a__law_made : At K mg "_law_made" "_law_made" (topS 21) ["kind", "one", "other", "place"] := by
    obtain ⟨fd, F⟩ := c.def_ 4 (d := dd__law_made) rfl
    exact ⟨_, _, fd, [], [], F, He.glo_ok X G (c.fact 4 (f := .glo "_law_made") rfl), L2.FunD.bindsN F fun _ _ _ _ _ _ us hl => match us, hl with | [_, _, _, _], _ => rfl⟩
  have a__law_take : At K mg "_law_take" "_law_take" (topS 18) ["box", "many"] := by
    obtain ⟨fd, F⟩ := c.def_ 5 (d := dd__law_take) rfl
    exact ⟨_, _, fd, [], [], F, He.glo_ok X G (c.fact 5 (f := .glo "_law_take") rfl), L2.FunD.bindsN F fun _ _ _ _ _ _ us hl => match us, hl with | [_, _], _ => rfl⟩
  have a__law_marks : At K mg "_law_marks" "_law_marks" (topS 20) ["e"] := by
    obtain ⟨fd, F⟩ := c.def_ 6 (d := dd__law_marks) rfl
    exact ⟨_, _, fd, [], [], F, He.glo_ok X G (c.fact 6 (f := .glo "_law_marks") rfl), L2.FunD.bindsN F fun _ _ _ _ _ _ us hl => match us, hl with | [_], _ => rfl⟩
  have a__law_keeps : At K mg "_law_keeps" "_law_keeps" (topS 22) ["e", "kind", "one", "other", "place"] := by
    obtain ⟨fd, F⟩ := c.def_ 7 (d := dd__law_keeps) rfl
    exact ⟨_, _, fd, [], [], F, He.glo_ok X G (c.fact 7 (f := .glo "_law_keeps") rfl), L2.FunD.bindsN F fun _ _ _ _ _ _ us hl => match us, hl with | [_, _, _, _, _], _ => rfl⟩
  have a_law : At K mg "law" "law" (topS 23) ["script"] := by
    obtain ⟨fd, F⟩ := c.def_ 8 (d := dd_law) rfl
    exact ⟨_, _, fd, [], [], F, He.glo_ok X G (c.fact 8 (f := .glo "law") rfl), L2.FunD.bindsN F fun _ _ _ _ _ _ us hl => match us, hl with | [_], _ => rfl⟩
  have y_K : PyK PySem.Challenge.pw_knockwright_k07_refusals_made K mg := pyK_of (by rfl) cz.2 (He.glo_ok X G (c.fact 15 (f := .glo "__builtins__") rfl))
  have z_len : mg "len" = none := He.free_ok X G (c.fact 9 (f := .free "len") rfl)
  have z_range : mg "range" = none := He.free_ok X G (c.fact 10 (f := .free "range") rfl)
  have z_abs : mg "abs" = none := He.free_ok X G (c.fact 11 (f := .free "abs") rfl)
  have z_divmod : mg "divmod" = none := He.free_ok X G (c.fact 12 (f := .free "divmod") rfl)
  have z_isinstance : mg "isinstance" = none := He.free_ok X G (c.fact 13 (f := .free "isinstance") rfl)
  have z_ValueError : mg "ValueError" = none := He.free_ok X G (c.fact 14 (f := .free "ValueError") rfl)
  have x_NoNumber : XCls K mg "NoNumber" := ⟨_, He.glo_ok X G (c.fact 16 (f := .glo "NoNumber") rfl), He.exc_ok (c.fact 17 (f := .exc "NoNumber") rfl)⟩
  have x_NoBody : XCls K mg "NoBody" := ⟨_, He.glo_ok X G (c.fact 18 (f := .glo "NoBody") rfl), He.exc_ok (c.fact 19 (f := .exc "NoBody") rfl)⟩
  have x_NoMoment : XCls K mg "NoMoment" := ⟨_, He.glo_ok X G (c.fact 20 (f := .glo "NoMoment") rfl), He.exc_ok (c.fact 21 (f := .exc "NoMoment") rfl)⟩
  have x_NoShare : XCls K mg "NoShare" := ⟨_, He.glo_ok X G (c.fact 22 (f := .glo "NoShare") rfl), He.exc_ok (c.fact 23 (f := .exc "NoShare") rfl)⟩
  have x_TooMany : XCls K mg "TooMany" := ⟨_, He.glo_ok X G (c.fact 24 (f := .glo "TooMany") rfl), He.exc_ok (c.fact 25 (f := .exc "TooMany") rfl)⟩
  have x_NoRow : XCls K mg "NoRow" := ⟨_, He.glo_ok X G (c.fact 26 (f := .glo "NoRow") rfl), He.exc_ok (c.fact 27 (f := .exc "NoRow") rfl)⟩
  have x_NoRun : XCls K mg "NoRun" := ⟨_, He.glo_ok X G (c.fact 28 (f := .glo "NoRun") rfl), He.exc_ok (c.fact 29 (f := .exc "NoRun") rfl)⟩
  have x_NoBox : XCls K mg "NoBox" := ⟨_, He.glo_ok X G (c.fact 30 (f := .glo "NoBox") rfl), He.exc_ok (c.fact 31 (f := .exc "NoBox") rfl)⟩
  have k_Crowd_NoNumber : KN K mg "Crowd" "NoNumber" false := kn_own (He.glo_ok X G (c.fact 36 (f := .glo "Crowd") rfl)) (He.glo_ok X G (c.fact 16 (f := .glo "NoNumber") rfl)) (c00.at_ 7 (x := .exc "Crowd") rfl) (c00.at_ 8 (x := .own "Crowd" "NoNumber" false) rfl)
  have k_NoBody_NoNumber : KN K mg "NoBody" "NoNumber" false := kn_own (He.glo_ok X G (c.fact 18 (f := .glo "NoBody") rfl)) (He.glo_ok X G (c.fact 16 (f := .glo "NoNumber") rfl)) (c00.at_ 9 (x := .exc "NoBody") rfl) (c00.at_ 10 (x := .own "NoBody" "NoNumber" false) rfl)
  have k_NoBox_NoNumber : KN K mg "NoBox" "NoNumber" false := kn_own (He.glo_ok X G (c.fact 30 (f := .glo "NoBox") rfl)) (He.glo_ok X G (c.fact 16 (f := .glo "NoNumber") rfl)) (c00.at_ 11 (x := .exc "NoBox") rfl) (c00.at_ 12 (x := .own "NoBox" "NoNumber" false) rfl)
  have k_NoMoment_NoNumber : KN K mg "NoMoment" "NoNumber" false := kn_own (He.glo_ok X G (c.fact 20 (f := .glo "NoMoment") rfl)) (He.glo_ok X G (c.fact 16 (f := .glo "NoNumber") rfl)) (c00.at_ 13 (x := .exc "NoMoment") rfl) (c00.at_ 14 (x := .own "NoMoment" "NoNumber" false) rfl)
  have k_NoNumber_NoNumber : KN K mg "NoNumber" "NoNumber" true := kn_own (He.glo_ok X G (c.fact 16 (f := .glo "NoNumber") rfl)) (He.glo_ok X G (c.fact 16 (f := .glo "NoNumber") rfl)) (c00.at_ 15 (x := .exc "NoNumber") rfl) (c00.at_ 16 (x := .own "NoNumber" "NoNumber" true) rfl)
  have k_NoRow_NoNumber : KN K mg "NoRow" "NoNumber" false := kn_own (He.glo_ok X G (c.fact 26 (f := .glo "NoRow") rfl)) (He.glo_ok X G (c.fact 16 (f := .glo "NoNumber") rfl)) (c00.at_ 17 (x := .exc "NoRow") rfl) (c00.at_ 18 (x := .own "NoRow" "NoNumber" false) rfl)
  have k_NoRun_NoNumber : KN K mg "NoRun" "NoNumber" false := kn_own (He.glo_ok X G (c.fact 28 (f := .glo "NoRun") rfl)) (He.glo_ok X G (c.fact 16 (f := .glo "NoNumber") rfl)) (c00.at_ 19 (x := .exc "NoRun") rfl) (c00.at_ 20 (x := .own "NoRun" "NoNumber" false) rfl)
  have k_NoShare_NoNumber : KN K mg "NoShare" "NoNumber" false := kn_own (He.glo_ok X G (c.fact 22 (f := .glo "NoShare") rfl)) (He.glo_ok X G (c.fact 16 (f := .glo "NoNumber") rfl)) (c00.at_ 21 (x := .exc "NoShare") rfl) (c00.at_ 22 (x := .own "NoShare" "NoNumber" false) rfl)
  have k_NoText_NoNumber : KN K mg "NoText" "NoNumber" false := kn_own (He.glo_ok X G (c.fact 34 (f := .glo "NoText") rfl)) (He.glo_ok X G (c.fact 16 (f := .glo "NoNumber") rfl)) (c00.at_ 23 (x := .exc "NoText") rfl) (c00.at_ 24 (x := .own "NoText" "NoNumber" false) rfl)
  have k_NoWorld_NoNumber : KN K mg "NoWorld" "NoNumber" false := kn_own (He.glo_ok X G (c.fact 32 (f := .glo "NoWorld") rfl)) (He.glo_ok X G (c.fact 16 (f := .glo "NoNumber") rfl)) (c00.at_ 25 (x := .exc "NoWorld") rfl) (c00.at_ 26 (x := .own "NoWorld" "NoNumber" false) rfl)
  have k_Overlap_NoNumber : KN K mg "Overlap" "NoNumber" false := kn_own (He.glo_ok X G (c.fact 35 (f := .glo "Overlap") rfl)) (He.glo_ok X G (c.fact 16 (f := .glo "NoNumber") rfl)) (c00.at_ 27 (x := .exc "Overlap") rfl) (c00.at_ 28 (x := .own "Overlap" "NoNumber" false) rfl)
  have k_TooMany_NoNumber : KN K mg "TooMany" "NoNumber" false := kn_own (He.glo_ok X G (c.fact 24 (f := .glo "TooMany") rfl)) (He.glo_ok X G (c.fact 16 (f := .glo "NoNumber") rfl)) (c00.at_ 29 (x := .exc "TooMany") rfl) (c00.at_ 30 (x := .own "TooMany" "NoNumber" false) rfl)
  have k_Crowd_NoBody : KN K mg "Crowd" "NoBody" false := kn_own (He.glo_ok X G (c.fact 36 (f := .glo "Crowd") rfl)) (He.glo_ok X G (c.fact 18 (f := .glo "NoBody") rfl)) (c00.at_ 7 (x := .exc "Crowd") rfl) (c00.at_ 31 (x := .own "Crowd" "NoBody" false) rfl)
  have k_NoBody_NoBody : KN K mg "NoBody" "NoBody" true := kn_own (He.glo_ok X G (c.fact 18 (f := .glo "NoBody") rfl)) (He.glo_ok X G (c.fact 18 (f := .glo "NoBody") rfl)) (c00.at_ 9 (x := .exc "NoBody") rfl) (c00.at_ 32 (x := .own "NoBody" "NoBody" true) rfl)
  have k_NoBox_NoBody : KN K mg "NoBox" "NoBody" false := kn_own (He.glo_ok X G (c.fact 30 (f := .glo "NoBox") rfl)) (He.glo_ok X G (c.fact 18 (f := .glo "NoBody") rfl)) (c00.at_ 11 (x := .exc "NoBox") rfl) (c00.at_ 33 (x := .own "NoBox" "NoBody" false) rfl)
  have k_NoMoment_NoBody : KN K mg "NoMoment" "NoBody" false := kn_own (He.glo_ok X G (c.fact 20 (f := .glo "NoMoment") rfl)) (He.glo_ok X G (c.fact 18 (f := .glo "NoBody") rfl)) (c00.at_ 13 (x := .exc "NoMoment") rfl) (c00.at_ 34 (x := .own "NoMoment" "NoBody" false) rfl)
  have k_NoNumber_NoBody : KN K mg "NoNumber" "NoBody" false := kn_own (He.glo_ok X G (c.fact 16 (f := .glo "NoNumber") rfl)) (He.glo_ok X G (c.fact 18 (f := .glo "NoBody") rfl)) (c00.at_ 15 (x := .exc "NoNumber") rfl) (c00.at_ 35 (x := .own "NoNumber" "NoBody" false) rfl)
  have k_NoRow_NoBody : KN K mg "NoRow" "NoBody" false := kn_own (He.glo_ok X G (c.fact 26 (f := .glo "NoRow") rfl)) (He.glo_ok X G (c.fact 18 (f := .glo "NoBody") rfl)) (c00.at_ 17 (x := .exc "NoRow") rfl) (c00.at_ 36 (x := .own "NoRow" "NoBody" false) rfl)
  have k_NoRun_NoBody : KN K mg "NoRun" "NoBody" false := kn_own (He.glo_ok X G (c.fact 28 (f := .glo "NoRun") rfl)) (He.glo_ok X G (c.fact 18 (f := .glo "NoBody") rfl)) (c00.at_ 19 (x := .exc "NoRun") rfl) (c00.at_ 37 (x := .own "NoRun" "NoBody" false) rfl)
  have k_NoShare_NoBody : KN K mg "NoShare" "NoBody" false := kn_own (He.glo_ok X G (c.fact 22 (f := .glo "NoShare") rfl)) (He.glo_ok X G (c.fact 18 (f := .glo "NoBody") rfl)) (c00.at_ 21 (x := .exc "NoShare") rfl) (c00.at_ 38 (x := .own "NoShare" "NoBody" false) rfl)
  have k_NoText_NoBody : KN K mg "NoText" "NoBody" false := kn_own (He.glo_ok X G (c.fact 34 (f := .glo "NoText") rfl)) (He.glo_ok X G (c.fact 18 (f := .glo "NoBody") rfl)) (c00.at_ 23 (x := .exc "NoText") rfl) (c00.at_ 39 (x := .own "NoText" "NoBody" false) rfl)
  have k_NoWorld_NoBody : KN K mg "NoWorld" "NoBody" false := kn_own (He.glo_ok X G (c.fact 32 (f := .glo "NoWorld") rfl)) (He.glo_ok X G (c.fact 18 (f := .glo "NoBody") rfl)) (c00.at_ 25 (x := .exc "NoWorld") rfl) (c00.at_ 40 (x := .own "NoWorld" "NoBody" false) rfl)
  have k_Overlap_NoBody : KN K mg "Overlap" "NoBody" false := kn_own (He.glo_ok X G (c.fact 35 (f := .glo "Overlap") rfl)) (He.glo_ok X G (c.fact 18 (f := .glo "NoBody") rfl)) (c00.at_ 27 (x := .exc "Overlap") rfl) (c00.at_ 41 (x := .own "Overlap" "NoBody" false) rfl)
  have k_TooMany_NoBody : KN K mg "TooMany" "NoBody" false := kn_own (He.glo_ok X G (c.fact 24 (f := .glo "TooMany") rfl)) (He.glo_ok X G (c.fact 18 (f := .glo "NoBody") rfl)) (c00.at_ 29 (x := .exc "TooMany") rfl) (c00.at_ 42 (x := .own "TooMany" "NoBody" false) rfl)
  have k_Crowd_NoMoment : KN K mg "Crowd" "NoMoment" false := kn_own (He.glo_ok X G (c.fact 36 (f := .glo "Crowd") rfl)) (He.glo_ok X G (c.fact 20 (f := .glo "NoMoment") rfl)) (c00.at_ 7 (x := .exc "Crowd") rfl) (c00.at_ 43 (x := .own "Crowd" "NoMoment" false) rfl)
  have k_NoBody_NoMoment : KN K mg "NoBody" "NoMoment" false := kn_own (He.glo_ok X G (c.fact 18 (f := .glo "NoBody") rfl)) (He.glo_ok X G (c.fact 20 (f := .glo "NoMoment") rfl)) (c00.at_ 9 (x := .exc "NoBody") rfl) (c00.at_ 44 (x := .own "NoBody" "NoMoment" false) rfl)
  have k_NoBox_NoMoment : KN K mg "NoBox" "NoMoment" false := kn_own (He.glo_ok X G (c.fact 30 (f := .glo "NoBox") rfl)) (He.glo_ok X G (c.fact 20 (f := .glo "NoMoment") rfl)) (c00.at_ 11 (x := .exc "NoBox") rfl) (c00.at_ 45 (x := .own "NoBox" "NoMoment" false) rfl)
  have k_NoMoment_NoMoment : KN K mg "NoMoment" "NoMoment" true := kn_own (He.glo_ok X G (c.fact 20 (f := .glo "NoMoment") rfl)) (He.glo_ok X G (c.fact 20 (f := .glo "NoMoment") rfl)) (c00.at_ 13 (x := .exc "NoMoment") rfl) (c00.at_ 46 (x := .own "NoMoment" "NoMoment" true) rfl)
  have k_NoNumber_NoMoment : KN K mg "NoNumber" "NoMoment" false := kn_own (He.glo_ok X G (c.fact 16 (f := .glo "NoNumber") rfl)) (He.glo_ok X G (c.fact 20 (f := .glo "NoMoment") rfl)) (c00.at_ 15 (x := .exc "NoNumber") rfl) (c00.at_ 47 (x := .own "NoNumber" "NoMoment" false) rfl)
  have k_NoRow_NoMoment : KN K mg "NoRow" "NoMoment" false := kn_own (He.glo_ok X G (c.fact 26 (f := .glo "NoRow") rfl)) (He.glo_ok X G (c.fact 20 (f := .glo "NoMoment") rfl)) (c00.at_ 17 (x := .exc "NoRow") rfl) (c00.at_ 48 (x := .own "NoRow" "NoMoment" false) rfl)
  have k_NoRun_NoMoment : KN K mg "NoRun" "NoMoment" false := kn_own (He.glo_ok X G (c.fact 28 (f := .glo "NoRun") rfl)) (He.glo_ok X G (c.fact 20 (f := .glo "NoMoment") rfl)) (c00.at_ 19 (x := .exc "NoRun") rfl) (c00.at_ 49 (x := .own "NoRun" "NoMoment" false) rfl)
  have k_NoShare_NoMoment : KN K mg "NoShare" "NoMoment" false := kn_own (He.glo_ok X G (c.fact 22 (f := .glo "NoShare") rfl)) (He.glo_ok X G (c.fact 20 (f := .glo "NoMoment") rfl)) (c00.at_ 21 (x := .exc "NoShare") rfl) (c00.at_ 50 (x := .own "NoShare" "NoMoment" false) rfl)
  have k_NoText_NoMoment : KN K mg "NoText" "NoMoment" false := kn_own (He.glo_ok X G (c.fact 34 (f := .glo "NoText") rfl)) (He.glo_ok X G (c.fact 20 (f := .glo "NoMoment") rfl)) (c00.at_ 23 (x := .exc "NoText") rfl) (c00.at_ 51 (x := .own "NoText" "NoMoment" false) rfl)
  have k_NoWorld_NoMoment : KN K mg "NoWorld" "NoMoment" false := kn_own (He.glo_ok X G (c.fact 32 (f := .glo "NoWorld") rfl)) (He.glo_ok X G (c.fact 20 (f := .glo "NoMoment") rfl)) (c00.at_ 25 (x := .exc "NoWorld") rfl) (c00.at_ 52 (x := .own "NoWorld" "NoMoment" false) rfl)
  have k_Overlap_NoMoment : KN K mg "Overlap" "NoMoment" false := kn_own (He.glo_ok X G (c.fact 35 (f := .glo "Overlap") rfl)) (He.glo_ok X G (c.fact 20 (f := .glo "NoMoment") rfl)) (c00.at_ 27 (x := .exc "Overlap") rfl) (c00.at_ 53 (x := .own "Overlap" "NoMoment" false) rfl)
  have k_TooMany_NoMoment : KN K mg "TooMany" "NoMoment" false := kn_own (He.glo_ok X G (c.fact 24 (f := .glo "TooMany") rfl)) (He.glo_ok X G (c.fact 20 (f := .glo "NoMoment") rfl)) (c00.at_ 29 (x := .exc "TooMany") rfl) (c00.at_ 54 (x := .own "TooMany" "NoMoment" false) rfl)
  have k_Crowd_NoShare : KN K mg "Crowd" "NoShare" false := kn_own (He.glo_ok X G (c.fact 36 (f := .glo "Crowd") rfl)) (He.glo_ok X G (c.fact 22 (f := .glo "NoShare") rfl)) (c00.at_ 7 (x := .exc "Crowd") rfl) (c00.at_ 55 (x := .own "Crowd" "NoShare" false) rfl)
  have k_NoBody_NoShare : KN K mg "NoBody" "NoShare" false := kn_own (He.glo_ok X G (c.fact 18 (f := .glo "NoBody") rfl)) (He.glo_ok X G (c.fact 22 (f := .glo "NoShare") rfl)) (c00.at_ 9 (x := .exc "NoBody") rfl) (c00.at_ 56 (x := .own "NoBody" "NoShare" false) rfl)
  have k_NoBox_NoShare : KN K mg "NoBox" "NoShare" false := kn_own (He.glo_ok X G (c.fact 30 (f := .glo "NoBox") rfl)) (He.glo_ok X G (c.fact 22 (f := .glo "NoShare") rfl)) (c00.at_ 11 (x := .exc "NoBox") rfl) (c00.at_ 57 (x := .own "NoBox" "NoShare" false) rfl)
  have k_NoMoment_NoShare : KN K mg "NoMoment" "NoShare" false := kn_own (He.glo_ok X G (c.fact 20 (f := .glo "NoMoment") rfl)) (He.glo_ok X G (c.fact 22 (f := .glo "NoShare") rfl)) (c00.at_ 13 (x := .exc "NoMoment") rfl) (c00.at_ 58 (x := .own "NoMoment" "NoShare" false) rfl)
  have k_NoNumber_NoShare : KN K mg "NoNumber" "NoShare" false := kn_own (He.glo_ok X G (c.fact 16 (f := .glo "NoNumber") rfl)) (He.glo_ok X G (c.fact 22 (f := .glo "NoShare") rfl)) (c00.at_ 15 (x := .exc "NoNumber") rfl) (c00.at_ 59 (x := .own "NoNumber" "NoShare" false) rfl)
  have k_NoRow_NoShare : KN K mg "NoRow" "NoShare" false := kn_own (He.glo_ok X G (c.fact 26 (f := .glo "NoRow") rfl)) (He.glo_ok X G (c.fact 22 (f := .glo "NoShare") rfl)) (c00.at_ 17 (x := .exc "NoRow") rfl) (c00.at_ 60 (x := .own "NoRow" "NoShare" false) rfl)
  have k_NoRun_NoShare : KN K mg "NoRun" "NoShare" false := kn_own (He.glo_ok X G (c.fact 28 (f := .glo "NoRun") rfl)) (He.glo_ok X G (c.fact 22 (f := .glo "NoShare") rfl)) (c00.at_ 19 (x := .exc "NoRun") rfl) (c00.at_ 61 (x := .own "NoRun" "NoShare" false) rfl)
  have k_NoShare_NoShare : KN K mg "NoShare" "NoShare" true := kn_own (He.glo_ok X G (c.fact 22 (f := .glo "NoShare") rfl)) (He.glo_ok X G (c.fact 22 (f := .glo "NoShare") rfl)) (c00.at_ 21 (x := .exc "NoShare") rfl) (c00.at_ 62 (x := .own "NoShare" "NoShare" true) rfl)
  have k_NoText_NoShare : KN K mg "NoText" "NoShare" false := kn_own (He.glo_ok X G (c.fact 34 (f := .glo "NoText") rfl)) (He.glo_ok X G (c.fact 22 (f := .glo "NoShare") rfl)) (c00.at_ 23 (x := .exc "NoText") rfl) (c00.at_ 63 (x := .own "NoText" "NoShare" false) rfl)
  have k_NoWorld_NoShare : KN K mg "NoWorld" "NoShare" false := kn_own (He.glo_ok X G (c.fact 32 (f := .glo "NoWorld") rfl)) (He.glo_ok X G (c.fact 22 (f := .glo "NoShare") rfl)) (c00.at_ 25 (x := .exc "NoWorld") rfl) (c00.at_ 64 (x := .own "NoWorld" "NoShare" false) rfl)
  have k_Overlap_NoShare : KN K mg "Overlap" "NoShare" false := kn_own (He.glo_ok X G (c.fact 35 (f := .glo "Overlap") rfl)) (He.glo_ok X G (c.fact 22 (f := .glo "NoShare") rfl)) (c00.at_ 27 (x := .exc "Overlap") rfl) (c00.at_ 65 (x := .own "Overlap" "NoShare" false) rfl)
  have k_TooMany_NoShare : KN K mg "TooMany" "NoShare" false := kn_own (He.glo_ok X G (c.fact 24 (f := .glo "TooMany") rfl)) (He.glo_ok X G (c.fact 22 (f := .glo "NoShare") rfl)) (c00.at_ 29 (x := .exc "TooMany") rfl) (c00.at_ 66 (x := .own "TooMany" "NoShare" false) rfl)
  have k_Crowd_TooMany : KN K mg "Crowd" "TooMany" false := kn_own (He.glo_ok X G (c.fact 36 (f := .glo "Crowd") rfl)) (He.glo_ok X G (c.fact 24 (f := .glo "TooMany") rfl)) (c00.at_ 7 (x := .exc "Crowd") rfl) (c00.at_ 67 (x := .own "Crowd" "TooMany" false) rfl)
  have k_NoBody_TooMany : KN K mg "NoBody" "TooMany" false := kn_own (He.glo_ok X G (c.fact 18 (f := .glo "NoBody") rfl)) (He.glo_ok X G (c.fact 24 (f := .glo "TooMany") rfl)) (c00.at_ 9 (x := .exc "NoBody") rfl) (c00.at_ 68 (x := .own "NoBody" "TooMany" false) rfl)
  have k_NoBox_TooMany : KN K mg "NoBox" "TooMany" false := kn_own (He.glo_ok X G (c.fact 30 (f := .glo "NoBox") rfl)) (He.glo_ok X G (c.fact 24 (f := .glo "TooMany") rfl)) (c00.at_ 11 (x := .exc "NoBox") rfl) (c00.at_ 69 (x := .own "NoBox" "TooMany" false) rfl)
  have k_NoMoment_TooMany : KN K mg "NoMoment" "TooMany" false := kn_own (He.glo_ok X G (c.fact 20 (f := .glo "NoMoment") rfl)) (He.glo_ok X G (c.fact 24 (f := .glo "TooMany") rfl)) (c00.at_ 13 (x := .exc "NoMoment") rfl) (c00.at_ 70 (x := .own "NoMoment" "TooMany" false) rfl)
  have k_NoNumber_TooMany : KN K mg "NoNumber" "TooMany" false := kn_own (He.glo_ok X G (c.fact 16 (f := .glo "NoNumber") rfl)) (He.glo_ok X G (c.fact 24 (f := .glo "TooMany") rfl)) (c00.at_ 15 (x := .exc "NoNumber") rfl) (c00.at_ 71 (x := .own "NoNumber" "TooMany" false) rfl)
  have k_NoRow_TooMany : KN K mg "NoRow" "TooMany" false := kn_own (He.glo_ok X G (c.fact 26 (f := .glo "NoRow") rfl)) (He.glo_ok X G (c.fact 24 (f := .glo "TooMany") rfl)) (c00.at_ 17 (x := .exc "NoRow") rfl) (c00.at_ 72 (x := .own "NoRow" "TooMany" false) rfl)
  have k_NoRun_TooMany : KN K mg "NoRun" "TooMany" false := kn_own (He.glo_ok X G (c.fact 28 (f := .glo "NoRun") rfl)) (He.glo_ok X G (c.fact 24 (f := .glo "TooMany") rfl)) (c00.at_ 19 (x := .exc "NoRun") rfl) (c00.at_ 73 (x := .own "NoRun" "TooMany" false) rfl)
  have k_NoShare_TooMany : KN K mg "NoShare" "TooMany" false := kn_own (He.glo_ok X G (c.fact 22 (f := .glo "NoShare") rfl)) (He.glo_ok X G (c.fact 24 (f := .glo "TooMany") rfl)) (c00.at_ 21 (x := .exc "NoShare") rfl) (c00.at_ 74 (x := .own "NoShare" "TooMany" false) rfl)
  have k_NoText_TooMany : KN K mg "NoText" "TooMany" false := kn_own (He.glo_ok X G (c.fact 34 (f := .glo "NoText") rfl)) (He.glo_ok X G (c.fact 24 (f := .glo "TooMany") rfl)) (c00.at_ 23 (x := .exc "NoText") rfl) (c00.at_ 75 (x := .own "NoText" "TooMany" false) rfl)
  have k_NoWorld_TooMany : KN K mg "NoWorld" "TooMany" false := kn_own (He.glo_ok X G (c.fact 32 (f := .glo "NoWorld") rfl)) (He.glo_ok X G (c.fact 24 (f := .glo "TooMany") rfl)) (c00.at_ 25 (x := .exc "NoWorld") rfl) (c00.at_ 76 (x := .own "NoWorld" "TooMany" false) rfl)
  have k_Overlap_TooMany : KN K mg "Overlap" "TooMany" false := kn_own (He.glo_ok X G (c.fact 35 (f := .glo "Overlap") rfl)) (He.glo_ok X G (c.fact 24 (f := .glo "TooMany") rfl)) (c00.at_ 27 (x := .exc "Overlap") rfl) (c00.at_ 77 (x := .own "Overlap" "TooMany" false) rfl)
  have k_TooMany_TooMany : KN K mg "TooMany" "TooMany" true := kn_own (He.glo_ok X G (c.fact 24 (f := .glo "TooMany") rfl)) (He.glo_ok X G (c.fact 24 (f := .glo "TooMany") rfl)) (c00.at_ 29 (x := .exc "TooMany") rfl) (c00.at_ 78 (x := .own "TooMany" "TooMany" true) rfl)
  have k_Crowd_NoRow : KN K mg "Crowd" "NoRow" false := kn_own (He.glo_ok X G (c.fact 36 (f := .glo "Crowd") rfl)) (He.glo_ok X G (c.fact 26 (f := .glo "NoRow") rfl)) (c00.at_ 7 (x := .exc "Crowd") rfl) (c00.at_ 79 (x := .own "Crowd" "NoRow" false) rfl)
  have k_NoBody_NoRow : KN K mg "NoBody" "NoRow" false := kn_own (He.glo_ok X G (c.fact 18 (f := .glo "NoBody") rfl)) (He.glo_ok X G (c.fact 26 (f := .glo "NoRow") rfl)) (c00.at_ 9 (x := .exc "NoBody") rfl) (c00.at_ 80 (x := .own "NoBody" "NoRow" false) rfl)
  have k_NoBox_NoRow : KN K mg "NoBox" "NoRow" false := kn_own (He.glo_ok X G (c.fact 30 (f := .glo "NoBox") rfl)) (He.glo_ok X G (c.fact 26 (f := .glo "NoRow") rfl)) (c00.at_ 11 (x := .exc "NoBox") rfl) (c00.at_ 81 (x := .own "NoBox" "NoRow" false) rfl)
  have k_NoMoment_NoRow : KN K mg "NoMoment" "NoRow" false := kn_own (He.glo_ok X G (c.fact 20 (f := .glo "NoMoment") rfl)) (He.glo_ok X G (c.fact 26 (f := .glo "NoRow") rfl)) (c00.at_ 13 (x := .exc "NoMoment") rfl) (c00.at_ 82 (x := .own "NoMoment" "NoRow" false) rfl)
  have k_NoNumber_NoRow : KN K mg "NoNumber" "NoRow" false := kn_own (He.glo_ok X G (c.fact 16 (f := .glo "NoNumber") rfl)) (He.glo_ok X G (c.fact 26 (f := .glo "NoRow") rfl)) (c00.at_ 15 (x := .exc "NoNumber") rfl) (c00.at_ 83 (x := .own "NoNumber" "NoRow" false) rfl)
  have k_NoRow_NoRow : KN K mg "NoRow" "NoRow" true := kn_own (He.glo_ok X G (c.fact 26 (f := .glo "NoRow") rfl)) (He.glo_ok X G (c.fact 26 (f := .glo "NoRow") rfl)) (c00.at_ 17 (x := .exc "NoRow") rfl) (c00.at_ 84 (x := .own "NoRow" "NoRow" true) rfl)
  have k_NoRun_NoRow : KN K mg "NoRun" "NoRow" false := kn_own (He.glo_ok X G (c.fact 28 (f := .glo "NoRun") rfl)) (He.glo_ok X G (c.fact 26 (f := .glo "NoRow") rfl)) (c00.at_ 19 (x := .exc "NoRun") rfl) (c00.at_ 85 (x := .own "NoRun" "NoRow" false) rfl)
  have k_NoShare_NoRow : KN K mg "NoShare" "NoRow" false := kn_own (He.glo_ok X G (c.fact 22 (f := .glo "NoShare") rfl)) (He.glo_ok X G (c.fact 26 (f := .glo "NoRow") rfl)) (c00.at_ 21 (x := .exc "NoShare") rfl) (c00.at_ 86 (x := .own "NoShare" "NoRow" false) rfl)
  have k_NoText_NoRow : KN K mg "NoText" "NoRow" false := kn_own (He.glo_ok X G (c.fact 34 (f := .glo "NoText") rfl)) (He.glo_ok X G (c.fact 26 (f := .glo "NoRow") rfl)) (c00.at_ 23 (x := .exc "NoText") rfl) (c00.at_ 87 (x := .own "NoText" "NoRow" false) rfl)
  have k_NoWorld_NoRow : KN K mg "NoWorld" "NoRow" false := kn_own (He.glo_ok X G (c.fact 32 (f := .glo "NoWorld") rfl)) (He.glo_ok X G (c.fact 26 (f := .glo "NoRow") rfl)) (c00.at_ 25 (x := .exc "NoWorld") rfl) (c00.at_ 88 (x := .own "NoWorld" "NoRow" false) rfl)
  have k_Overlap_NoRow : KN K mg "Overlap" "NoRow" false := kn_own (He.glo_ok X G (c.fact 35 (f := .glo "Overlap") rfl)) (He.glo_ok X G (c.fact 26 (f := .glo "NoRow") rfl)) (c00.at_ 27 (x := .exc "Overlap") rfl) (c00.at_ 89 (x := .own "Overlap" "NoRow" false) rfl)
  have k_TooMany_NoRow : KN K mg "TooMany" "NoRow" false := kn_own (He.glo_ok X G (c.fact 24 (f := .glo "TooMany") rfl)) (He.glo_ok X G (c.fact 26 (f := .glo "NoRow") rfl)) (c00.at_ 29 (x := .exc "TooMany") rfl) (c00.at_ 90 (x := .own "TooMany" "NoRow" false) rfl)
  have k_Crowd_NoRun : KN K mg "Crowd" "NoRun" false := kn_own (He.glo_ok X G (c.fact 36 (f := .glo "Crowd") rfl)) (He.glo_ok X G (c.fact 28 (f := .glo "NoRun") rfl)) (c00.at_ 7 (x := .exc "Crowd") rfl) (c00.at_ 91 (x := .own "Crowd" "NoRun" false) rfl)
  have k_NoBody_NoRun : KN K mg "NoBody" "NoRun" false := kn_own (He.glo_ok X G (c.fact 18 (f := .glo "NoBody") rfl)) (He.glo_ok X G (c.fact 28 (f := .glo "NoRun") rfl)) (c00.at_ 9 (x := .exc "NoBody") rfl) (c00.at_ 92 (x := .own "NoBody" "NoRun" false) rfl)
  have k_NoBox_NoRun : KN K mg "NoBox" "NoRun" false := kn_own (He.glo_ok X G (c.fact 30 (f := .glo "NoBox") rfl)) (He.glo_ok X G (c.fact 28 (f := .glo "NoRun") rfl)) (c00.at_ 11 (x := .exc "NoBox") rfl) (c00.at_ 93 (x := .own "NoBox" "NoRun" false) rfl)
  have k_NoMoment_NoRun : KN K mg "NoMoment" "NoRun" false := kn_own (He.glo_ok X G (c.fact 20 (f := .glo "NoMoment") rfl)) (He.glo_ok X G (c.fact 28 (f := .glo "NoRun") rfl)) (c00.at_ 13 (x := .exc "NoMoment") rfl) (c00.at_ 94 (x := .own "NoMoment" "NoRun" false) rfl)
  have k_NoNumber_NoRun : KN K mg "NoNumber" "NoRun" false := kn_own (He.glo_ok X G (c.fact 16 (f := .glo "NoNumber") rfl)) (He.glo_ok X G (c.fact 28 (f := .glo "NoRun") rfl)) (c00.at_ 15 (x := .exc "NoNumber") rfl) (c00.at_ 95 (x := .own "NoNumber" "NoRun" false) rfl)
  have k_NoRow_NoRun : KN K mg "NoRow" "NoRun" false := kn_own (He.glo_ok X G (c.fact 26 (f := .glo "NoRow") rfl)) (He.glo_ok X G (c.fact 28 (f := .glo "NoRun") rfl)) (c00.at_ 17 (x := .exc "NoRow") rfl) (c00.at_ 96 (x := .own "NoRow" "NoRun" false) rfl)
  have k_NoRun_NoRun : KN K mg "NoRun" "NoRun" true := kn_own (He.glo_ok X G (c.fact 28 (f := .glo "NoRun") rfl)) (He.glo_ok X G (c.fact 28 (f := .glo "NoRun") rfl)) (c00.at_ 19 (x := .exc "NoRun") rfl) (c00.at_ 97 (x := .own "NoRun" "NoRun" true) rfl)
  have k_NoShare_NoRun : KN K mg "NoShare" "NoRun" false := kn_own (He.glo_ok X G (c.fact 22 (f := .glo "NoShare") rfl)) (He.glo_ok X G (c.fact 28 (f := .glo "NoRun") rfl)) (c00.at_ 21 (x := .exc "NoShare") rfl) (c00.at_ 98 (x := .own "NoShare" "NoRun" false) rfl)
  have k_NoText_NoRun : KN K mg "NoText" "NoRun" false := kn_own (He.glo_ok X G (c.fact 34 (f := .glo "NoText") rfl)) (He.glo_ok X G (c.fact 28 (f := .glo "NoRun") rfl)) (c00.at_ 23 (x := .exc "NoText") rfl) (c00.at_ 99 (x := .own "NoText" "NoRun" false) rfl)
  have k_NoWorld_NoRun : KN K mg "NoWorld" "NoRun" false := kn_own (He.glo_ok X G (c.fact 32 (f := .glo "NoWorld") rfl)) (He.glo_ok X G (c.fact 28 (f := .glo "NoRun") rfl)) (c00.at_ 25 (x := .exc "NoWorld") rfl) (c00.at_ 100 (x := .own "NoWorld" "NoRun" false) rfl)
  have k_Overlap_NoRun : KN K mg "Overlap" "NoRun" false := kn_own (He.glo_ok X G (c.fact 35 (f := .glo "Overlap") rfl)) (He.glo_ok X G (c.fact 28 (f := .glo "NoRun") rfl)) (c00.at_ 27 (x := .exc "Overlap") rfl) (c00.at_ 101 (x := .own "Overlap" "NoRun" false) rfl)
  have k_TooMany_NoRun : KN K mg "TooMany" "NoRun" false := kn_own (He.glo_ok X G (c.fact 24 (f := .glo "TooMany") rfl)) (He.glo_ok X G (c.fact 28 (f := .glo "NoRun") rfl)) (c00.at_ 29 (x := .exc "TooMany") rfl) (c00.at_ 102 (x := .own "TooMany" "NoRun" false) rfl)
  have k_Crowd_NoBox : KN K mg "Crowd" "NoBox" false := kn_own (He.glo_ok X G (c.fact 36 (f := .glo "Crowd") rfl)) (He.glo_ok X G (c.fact 30 (f := .glo "NoBox") rfl)) (c00.at_ 7 (x := .exc "Crowd") rfl) (c00.at_ 103 (x := .own "Crowd" "NoBox" false) rfl)
  have k_NoBody_NoBox : KN K mg "NoBody" "NoBox" false := kn_own (He.glo_ok X G (c.fact 18 (f := .glo "NoBody") rfl)) (He.glo_ok X G (c.fact 30 (f := .glo "NoBox") rfl)) (c00.at_ 9 (x := .exc "NoBody") rfl) (c00.at_ 104 (x := .own "NoBody" "NoBox" false) rfl)
  have k_NoBox_NoBox : KN K mg "NoBox" "NoBox" true := kn_own (He.glo_ok X G (c.fact 30 (f := .glo "NoBox") rfl)) (He.glo_ok X G (c.fact 30 (f := .glo "NoBox") rfl)) (c00.at_ 11 (x := .exc "NoBox") rfl) (c00.at_ 105 (x := .own "NoBox" "NoBox" true) rfl)
  have k_NoMoment_NoBox : KN K mg "NoMoment" "NoBox" false := kn_own (He.glo_ok X G (c.fact 20 (f := .glo "NoMoment") rfl)) (He.glo_ok X G (c.fact 30 (f := .glo "NoBox") rfl)) (c00.at_ 13 (x := .exc "NoMoment") rfl) (c00.at_ 106 (x := .own "NoMoment" "NoBox" false) rfl)
  have k_NoNumber_NoBox : KN K mg "NoNumber" "NoBox" false := kn_own (He.glo_ok X G (c.fact 16 (f := .glo "NoNumber") rfl)) (He.glo_ok X G (c.fact 30 (f := .glo "NoBox") rfl)) (c00.at_ 15 (x := .exc "NoNumber") rfl) (c00.at_ 107 (x := .own "NoNumber" "NoBox" false) rfl)
  have k_NoRow_NoBox : KN K mg "NoRow" "NoBox" false := kn_own (He.glo_ok X G (c.fact 26 (f := .glo "NoRow") rfl)) (He.glo_ok X G (c.fact 30 (f := .glo "NoBox") rfl)) (c00.at_ 17 (x := .exc "NoRow") rfl) (c00.at_ 108 (x := .own "NoRow" "NoBox" false) rfl)
  have k_NoRun_NoBox : KN K mg "NoRun" "NoBox" false := kn_own (He.glo_ok X G (c.fact 28 (f := .glo "NoRun") rfl)) (He.glo_ok X G (c.fact 30 (f := .glo "NoBox") rfl)) (c00.at_ 19 (x := .exc "NoRun") rfl) (c00.at_ 109 (x := .own "NoRun" "NoBox" false) rfl)
  have k_NoShare_NoBox : KN K mg "NoShare" "NoBox" false := kn_own (He.glo_ok X G (c.fact 22 (f := .glo "NoShare") rfl)) (He.glo_ok X G (c.fact 30 (f := .glo "NoBox") rfl)) (c00.at_ 21 (x := .exc "NoShare") rfl) (c00.at_ 110 (x := .own "NoShare" "NoBox" false) rfl)
  have k_NoText_NoBox : KN K mg "NoText" "NoBox" false := kn_own (He.glo_ok X G (c.fact 34 (f := .glo "NoText") rfl)) (He.glo_ok X G (c.fact 30 (f := .glo "NoBox") rfl)) (c00.at_ 23 (x := .exc "NoText") rfl) (c00.at_ 111 (x := .own "NoText" "NoBox" false) rfl)
  have k_NoWorld_NoBox : KN K mg "NoWorld" "NoBox" false := kn_own (He.glo_ok X G (c.fact 32 (f := .glo "NoWorld") rfl)) (He.glo_ok X G (c.fact 30 (f := .glo "NoBox") rfl)) (c00.at_ 25 (x := .exc "NoWorld") rfl) (c00.at_ 112 (x := .own "NoWorld" "NoBox" false) rfl)
  have k_Overlap_NoBox : KN K mg "Overlap" "NoBox" false := kn_own (He.glo_ok X G (c.fact 35 (f := .glo "Overlap") rfl)) (He.glo_ok X G (c.fact 30 (f := .glo "NoBox") rfl)) (c00.at_ 27 (x := .exc "Overlap") rfl) (c00.at_ 113 (x := .own "Overlap" "NoBox" false) rfl)
  have k_TooMany_NoBox : KN K mg "TooMany" "NoBox" false := kn_own (He.glo_ok X G (c.fact 24 (f := .glo "TooMany") rfl)) (He.glo_ok X G (c.fact 30 (f := .glo "NoBox") rfl)) (c00.at_ 29 (x := .exc "TooMany") rfl) (c00.at_ 114 (x := .own "TooMany" "NoBox" false) rfl)
  have k_Crowd_NoWorld : KN K mg "Crowd" "NoWorld" false := kn_own (He.glo_ok X G (c.fact 36 (f := .glo "Crowd") rfl)) (He.glo_ok X G (c.fact 32 (f := .glo "NoWorld") rfl)) (c00.at_ 7 (x := .exc "Crowd") rfl) (c00.at_ 115 (x := .own "Crowd" "NoWorld" false) rfl)
  have k_NoBody_NoWorld : KN K mg "NoBody" "NoWorld" false := kn_own (He.glo_ok X G (c.fact 18 (f := .glo "NoBody") rfl)) (He.glo_ok X G (c.fact 32 (f := .glo "NoWorld") rfl)) (c00.at_ 9 (x := .exc "NoBody") rfl) (c00.at_ 116 (x := .own "NoBody" "NoWorld" false) rfl)
  have k_NoBox_NoWorld : KN K mg "NoBox" "NoWorld" false := kn_own (He.glo_ok X G (c.fact 30 (f := .glo "NoBox") rfl)) (He.glo_ok X G (c.fact 32 (f := .glo "NoWorld") rfl)) (c00.at_ 11 (x := .exc "NoBox") rfl) (c00.at_ 117 (x := .own "NoBox" "NoWorld" false) rfl)
  have k_NoMoment_NoWorld : KN K mg "NoMoment" "NoWorld" false := kn_own (He.glo_ok X G (c.fact 20 (f := .glo "NoMoment") rfl)) (He.glo_ok X G (c.fact 32 (f := .glo "NoWorld") rfl)) (c00.at_ 13 (x := .exc "NoMoment") rfl) (c00.at_ 118 (x := .own "NoMoment" "NoWorld" false) rfl)
  have k_NoNumber_NoWorld : KN K mg "NoNumber" "NoWorld" false := kn_own (He.glo_ok X G (c.fact 16 (f := .glo "NoNumber") rfl)) (He.glo_ok X G (c.fact 32 (f := .glo "NoWorld") rfl)) (c00.at_ 15 (x := .exc "NoNumber") rfl) (c00.at_ 119 (x := .own "NoNumber" "NoWorld" false) rfl)
  have k_NoRow_NoWorld : KN K mg "NoRow" "NoWorld" false := kn_own (He.glo_ok X G (c.fact 26 (f := .glo "NoRow") rfl)) (He.glo_ok X G (c.fact 32 (f := .glo "NoWorld") rfl)) (c00.at_ 17 (x := .exc "NoRow") rfl) (c00.at_ 120 (x := .own "NoRow" "NoWorld" false) rfl)
  have k_NoRun_NoWorld : KN K mg "NoRun" "NoWorld" false := kn_own (He.glo_ok X G (c.fact 28 (f := .glo "NoRun") rfl)) (He.glo_ok X G (c.fact 32 (f := .glo "NoWorld") rfl)) (c00.at_ 19 (x := .exc "NoRun") rfl) (c00.at_ 121 (x := .own "NoRun" "NoWorld" false) rfl)
  have k_NoShare_NoWorld : KN K mg "NoShare" "NoWorld" false := kn_own (He.glo_ok X G (c.fact 22 (f := .glo "NoShare") rfl)) (He.glo_ok X G (c.fact 32 (f := .glo "NoWorld") rfl)) (c00.at_ 21 (x := .exc "NoShare") rfl) (c00.at_ 122 (x := .own "NoShare" "NoWorld" false) rfl)
  have k_NoText_NoWorld : KN K mg "NoText" "NoWorld" false := kn_own (He.glo_ok X G (c.fact 34 (f := .glo "NoText") rfl)) (He.glo_ok X G (c.fact 32 (f := .glo "NoWorld") rfl)) (c00.at_ 23 (x := .exc "NoText") rfl) (c00.at_ 123 (x := .own "NoText" "NoWorld" false) rfl)
  have k_NoWorld_NoWorld : KN K mg "NoWorld" "NoWorld" true := kn_own (He.glo_ok X G (c.fact 32 (f := .glo "NoWorld") rfl)) (He.glo_ok X G (c.fact 32 (f := .glo "NoWorld") rfl)) (c00.at_ 25 (x := .exc "NoWorld") rfl) (c00.at_ 124 (x := .own "NoWorld" "NoWorld" true) rfl)
  have k_Overlap_NoWorld : KN K mg "Overlap" "NoWorld" false := kn_own (He.glo_ok X G (c.fact 35 (f := .glo "Overlap") rfl)) (He.glo_ok X G (c.fact 32 (f := .glo "NoWorld") rfl)) (c00.at_ 27 (x := .exc "Overlap") rfl) (c00.at_ 125 (x := .own "Overlap" "NoWorld" false) rfl)
  have k_TooMany_NoWorld : KN K mg "TooMany" "NoWorld" false := kn_own (He.glo_ok X G (c.fact 24 (f := .glo "TooMany") rfl)) (He.glo_ok X G (c.fact 32 (f := .glo "NoWorld") rfl)) (c00.at_ 29 (x := .exc "TooMany") rfl) (c00.at_ 126 (x := .own "TooMany" "NoWorld" false) rfl)
  have k_Crowd_NoText : KN K mg "Crowd" "NoText" false := kn_own (He.glo_ok X G (c.fact 36 (f := .glo "Crowd") rfl)) (He.glo_ok X G (c.fact 34 (f := .glo "NoText") rfl)) (c00.at_ 7 (x := .exc "Crowd") rfl) (c00.at_ 127 (x := .own "Crowd" "NoText" false) rfl)
  have k_NoBody_NoText : KN K mg "NoBody" "NoText" false := kn_own (He.glo_ok X G (c.fact 18 (f := .glo "NoBody") rfl)) (He.glo_ok X G (c.fact 34 (f := .glo "NoText") rfl)) (c00.at_ 9 (x := .exc "NoBody") rfl) (c00.at_ 128 (x := .own "NoBody" "NoText" false) rfl)
  have k_NoBox_NoText : KN K mg "NoBox" "NoText" false := kn_own (He.glo_ok X G (c.fact 30 (f := .glo "NoBox") rfl)) (He.glo_ok X G (c.fact 34 (f := .glo "NoText") rfl)) (c00.at_ 11 (x := .exc "NoBox") rfl) (c00.at_ 129 (x := .own "NoBox" "NoText" false) rfl)
  have k_NoMoment_NoText : KN K mg "NoMoment" "NoText" false := kn_own (He.glo_ok X G (c.fact 20 (f := .glo "NoMoment") rfl)) (He.glo_ok X G (c.fact 34 (f := .glo "NoText") rfl)) (c00.at_ 13 (x := .exc "NoMoment") rfl) (c00.at_ 130 (x := .own "NoMoment" "NoText" false) rfl)
  have k_NoNumber_NoText : KN K mg "NoNumber" "NoText" false := kn_own (He.glo_ok X G (c.fact 16 (f := .glo "NoNumber") rfl)) (He.glo_ok X G (c.fact 34 (f := .glo "NoText") rfl)) (c00.at_ 15 (x := .exc "NoNumber") rfl) (c00.at_ 131 (x := .own "NoNumber" "NoText" false) rfl)
  have k_NoRow_NoText : KN K mg "NoRow" "NoText" false := kn_own (He.glo_ok X G (c.fact 26 (f := .glo "NoRow") rfl)) (He.glo_ok X G (c.fact 34 (f := .glo "NoText") rfl)) (c00.at_ 17 (x := .exc "NoRow") rfl) (c00.at_ 132 (x := .own "NoRow" "NoText" false) rfl)
  have k_NoRun_NoText : KN K mg "NoRun" "NoText" false := kn_own (He.glo_ok X G (c.fact 28 (f := .glo "NoRun") rfl)) (He.glo_ok X G (c.fact 34 (f := .glo "NoText") rfl)) (c00.at_ 19 (x := .exc "NoRun") rfl) (c00.at_ 133 (x := .own "NoRun" "NoText" false) rfl)
  have k_NoShare_NoText : KN K mg "NoShare" "NoText" false := kn_own (He.glo_ok X G (c.fact 22 (f := .glo "NoShare") rfl)) (He.glo_ok X G (c.fact 34 (f := .glo "NoText") rfl)) (c00.at_ 21 (x := .exc "NoShare") rfl) (c00.at_ 134 (x := .own "NoShare" "NoText" false) rfl)
  have k_NoText_NoText : KN K mg "NoText" "NoText" true := kn_own (He.glo_ok X G (c.fact 34 (f := .glo "NoText") rfl)) (He.glo_ok X G (c.fact 34 (f := .glo "NoText") rfl)) (c00.at_ 23 (x := .exc "NoText") rfl) (c00.at_ 135 (x := .own "NoText" "NoText" true) rfl)
  have k_NoWorld_NoText : KN K mg "NoWorld" "NoText" false := kn_own (He.glo_ok X G (c.fact 32 (f := .glo "NoWorld") rfl)) (He.glo_ok X G (c.fact 34 (f := .glo "NoText") rfl)) (c00.at_ 25 (x := .exc "NoWorld") rfl) (c00.at_ 136 (x := .own "NoWorld" "NoText" false) rfl)
  have k_Overlap_NoText : KN K mg "Overlap" "NoText" false := kn_own (He.glo_ok X G (c.fact 35 (f := .glo "Overlap") rfl)) (He.glo_ok X G (c.fact 34 (f := .glo "NoText") rfl)) (c00.at_ 27 (x := .exc "Overlap") rfl) (c00.at_ 137 (x := .own "Overlap" "NoText" false) rfl)
  have k_TooMany_NoText : KN K mg "TooMany" "NoText" false := kn_own (He.glo_ok X G (c.fact 24 (f := .glo "TooMany") rfl)) (He.glo_ok X G (c.fact 34 (f := .glo "NoText") rfl)) (c00.at_ 29 (x := .exc "TooMany") rfl) (c00.at_ 138 (x := .own "TooMany" "NoText" false) rfl)
  have k_Crowd_Overlap : KN K mg "Crowd" "Overlap" false := kn_own (He.glo_ok X G (c.fact 36 (f := .glo "Crowd") rfl)) (He.glo_ok X G (c.fact 35 (f := .glo "Overlap") rfl)) (c00.at_ 7 (x := .exc "Crowd") rfl) (c00.at_ 139 (x := .own "Crowd" "Overlap" false) rfl)
  have k_NoBody_Overlap : KN K mg "NoBody" "Overlap" false := kn_own (He.glo_ok X G (c.fact 18 (f := .glo "NoBody") rfl)) (He.glo_ok X G (c.fact 35 (f := .glo "Overlap") rfl)) (c00.at_ 9 (x := .exc "NoBody") rfl) (c00.at_ 140 (x := .own "NoBody" "Overlap" false) rfl)
  have k_NoBox_Overlap : KN K mg "NoBox" "Overlap" false := kn_own (He.glo_ok X G (c.fact 30 (f := .glo "NoBox") rfl)) (He.glo_ok X G (c.fact 35 (f := .glo "Overlap") rfl)) (c00.at_ 11 (x := .exc "NoBox") rfl) (c00.at_ 141 (x := .own "NoBox" "Overlap" false) rfl)
  have k_NoMoment_Overlap : KN K mg "NoMoment" "Overlap" false := kn_own (He.glo_ok X G (c.fact 20 (f := .glo "NoMoment") rfl)) (He.glo_ok X G (c.fact 35 (f := .glo "Overlap") rfl)) (c00.at_ 13 (x := .exc "NoMoment") rfl) (c00.at_ 142 (x := .own "NoMoment" "Overlap" false) rfl)
  have k_NoNumber_Overlap : KN K mg "NoNumber" "Overlap" false := kn_own (He.glo_ok X G (c.fact 16 (f := .glo "NoNumber") rfl)) (He.glo_ok X G (c.fact 35 (f := .glo "Overlap") rfl)) (c00.at_ 15 (x := .exc "NoNumber") rfl) (c00.at_ 143 (x := .own "NoNumber" "Overlap" false) rfl)
  have k_NoRow_Overlap : KN K mg "NoRow" "Overlap" false := kn_own (He.glo_ok X G (c.fact 26 (f := .glo "NoRow") rfl)) (He.glo_ok X G (c.fact 35 (f := .glo "Overlap") rfl)) (c00.at_ 17 (x := .exc "NoRow") rfl) (c00.at_ 144 (x := .own "NoRow" "Overlap" false) rfl)
  have k_NoRun_Overlap : KN K mg "NoRun" "Overlap" false := kn_own (He.glo_ok X G (c.fact 28 (f := .glo "NoRun") rfl)) (He.glo_ok X G (c.fact 35 (f := .glo "Overlap") rfl)) (c00.at_ 19 (x := .exc "NoRun") rfl) (c00.at_ 145 (x := .own "NoRun" "Overlap" false) rfl)
  have k_NoShare_Overlap : KN K mg "NoShare" "Overlap" false := kn_own (He.glo_ok X G (c.fact 22 (f := .glo "NoShare") rfl)) (He.glo_ok X G (c.fact 35 (f := .glo "Overlap") rfl)) (c00.at_ 21 (x := .exc "NoShare") rfl) (c00.at_ 146 (x := .own "NoShare" "Overlap" false) rfl)
  have k_NoText_Overlap : KN K mg "NoText" "Overlap" false := kn_own (He.glo_ok X G (c.fact 34 (f := .glo "NoText") rfl)) (He.glo_ok X G (c.fact 35 (f := .glo "Overlap") rfl)) (c00.at_ 23 (x := .exc "NoText") rfl) (c00.at_ 147 (x := .own "NoText" "Overlap" false) rfl)
  have k_NoWorld_Overlap : KN K mg "NoWorld" "Overlap" false := kn_own (He.glo_ok X G (c.fact 32 (f := .glo "NoWorld") rfl)) (He.glo_ok X G (c.fact 35 (f := .glo "Overlap") rfl)) (c00.at_ 25 (x := .exc "NoWorld") rfl) (c00.at_ 148 (x := .own "NoWorld" "Overlap" false) rfl)
  have k_Overlap_Overlap : KN K mg "Overlap" "Overlap" true := kn_own (He.glo_ok X G (c.fact 35 (f := .glo "Overlap") rfl)) (He.glo_ok X G (c.fact 35 (f := .glo "Overlap") rfl)) (c00.at_ 27 (x := .exc "Overlap") rfl) (c00.at_ 149 (x := .own "Overlap" "Overlap" true) rfl)
  have k_TooMany_Overlap : KN K mg "TooMany" "Overlap" false := kn_own (He.glo_ok X G (c.fact 24 (f := .glo "TooMany") rfl)) (He.glo_ok X G (c.fact 35 (f := .glo "Overlap") rfl)) (c00.at_ 29 (x := .exc "TooMany") rfl) (c00.at_ 150 (x := .own "TooMany" "Overlap" false) rfl)
  have k_Crowd_Crowd : KN K mg "Crowd" "Crowd" true := kn_own (He.glo_ok X G (c.fact 36 (f := .glo "Crowd") rfl)) (He.glo_ok X G (c.fact 36 (f := .glo "Crowd") rfl)) (c00.at_ 7 (x := .exc "Crowd") rfl) (c00.at_ 151 (x := .own "Crowd" "Crowd" true) rfl)
  have k_NoBody_Crowd : KN K mg "NoBody" "Crowd" false := kn_own (He.glo_ok X G (c.fact 18 (f := .glo "NoBody") rfl)) (He.glo_ok X G (c.fact 36 (f := .glo "Crowd") rfl)) (c00.at_ 9 (x := .exc "NoBody") rfl) (c00.at_ 152 (x := .own "NoBody" "Crowd" false) rfl)
  have k_NoBox_Crowd : KN K mg "NoBox" "Crowd" false := kn_own (He.glo_ok X G (c.fact 30 (f := .glo "NoBox") rfl)) (He.glo_ok X G (c.fact 36 (f := .glo "Crowd") rfl)) (c00.at_ 11 (x := .exc "NoBox") rfl) (c00.at_ 153 (x := .own "NoBox" "Crowd" false) rfl)
  have k_NoMoment_Crowd : KN K mg "NoMoment" "Crowd" false := kn_own (He.glo_ok X G (c.fact 20 (f := .glo "NoMoment") rfl)) (He.glo_ok X G (c.fact 36 (f := .glo "Crowd") rfl)) (c00.at_ 13 (x := .exc "NoMoment") rfl) (c00.at_ 154 (x := .own "NoMoment" "Crowd" false) rfl)
  have k_NoNumber_Crowd : KN K mg "NoNumber" "Crowd" false := kn_own (He.glo_ok X G (c.fact 16 (f := .glo "NoNumber") rfl)) (He.glo_ok X G (c.fact 36 (f := .glo "Crowd") rfl)) (c00.at_ 15 (x := .exc "NoNumber") rfl) (c00.at_ 155 (x := .own "NoNumber" "Crowd" false) rfl)
  have k_NoRow_Crowd : KN K mg "NoRow" "Crowd" false := kn_own (He.glo_ok X G (c.fact 26 (f := .glo "NoRow") rfl)) (He.glo_ok X G (c.fact 36 (f := .glo "Crowd") rfl)) (c00.at_ 17 (x := .exc "NoRow") rfl) (c00.at_ 156 (x := .own "NoRow" "Crowd" false) rfl)
  have k_NoRun_Crowd : KN K mg "NoRun" "Crowd" false := kn_own (He.glo_ok X G (c.fact 28 (f := .glo "NoRun") rfl)) (He.glo_ok X G (c.fact 36 (f := .glo "Crowd") rfl)) (c00.at_ 19 (x := .exc "NoRun") rfl) (c00.at_ 157 (x := .own "NoRun" "Crowd" false) rfl)
  have k_NoShare_Crowd : KN K mg "NoShare" "Crowd" false := kn_own (He.glo_ok X G (c.fact 22 (f := .glo "NoShare") rfl)) (He.glo_ok X G (c.fact 36 (f := .glo "Crowd") rfl)) (c00.at_ 21 (x := .exc "NoShare") rfl) (c00.at_ 158 (x := .own "NoShare" "Crowd" false) rfl)
  have k_NoText_Crowd : KN K mg "NoText" "Crowd" false := kn_own (He.glo_ok X G (c.fact 34 (f := .glo "NoText") rfl)) (He.glo_ok X G (c.fact 36 (f := .glo "Crowd") rfl)) (c00.at_ 23 (x := .exc "NoText") rfl) (c00.at_ 159 (x := .own "NoText" "Crowd" false) rfl)
  have k_NoWorld_Crowd : KN K mg "NoWorld" "Crowd" false := kn_own (He.glo_ok X G (c.fact 32 (f := .glo "NoWorld") rfl)) (He.glo_ok X G (c.fact 36 (f := .glo "Crowd") rfl)) (c00.at_ 25 (x := .exc "NoWorld") rfl) (c00.at_ 160 (x := .own "NoWorld" "Crowd" false) rfl)
  have k_Overlap_Crowd : KN K mg "Overlap" "Crowd" false := kn_own (He.glo_ok X G (c.fact 35 (f := .glo "Overlap") rfl)) (He.glo_ok X G (c.fact 36 (f := .glo "Crowd") rfl)) (c00.at_ 27 (x := .exc "Overlap") rfl) (c00.at_ 161 (x := .own "Overlap" "Crowd" false) rfl)
  have k_TooMany_Crowd : KN K mg "TooMany" "Crowd" false := kn_own (He.glo_ok X G (c.fact 24 (f := .glo "TooMany") rfl)) (He.glo_ok X G (c.fact 36 (f := .glo "Crowd") rfl)) (c00.at_ 29 (x := .exc "TooMany") rfl) (c00.at_ 162 (x := .own "TooMany" "Crowd" false) rfl)
  have f_NoWorld_at : XFl K mg "NoWorld" "at" := xfl_of (He.glo_ok X G (c.fact 32 (f := .glo "NoWorld") rfl)) (c00.at_ 25 (x := .exc "NoWorld") rfl) (c00.at_ 0 (x := .xf "NoWorld" "at") rfl)
  have f_NoText_line : XFl K mg "NoText" "line" := xfl_of (He.glo_ok X G (c.fact 34 (f := .glo "NoText") rfl)) (c00.at_ 23 (x := .exc "NoText") rfl) (c00.at_ 1 (x := .xf "NoText" "line") rfl)
  have f_Overlap_one : XFl K mg "Overlap" "one" := xfl_of (He.glo_ok X G (c.fact 35 (f := .glo "Overlap") rfl)) (c00.at_ 27 (x := .exc "Overlap") rfl) (c00.at_ 2 (x := .xf "Overlap" "one") rfl)
  have f_Overlap_other : XFl K mg "Overlap" "other" := xfl_of (He.glo_ok X G (c.fact 35 (f := .glo "Overlap") rfl)) (c00.at_ 27 (x := .exc "Overlap") rfl) (c00.at_ 3 (x := .xf "Overlap" "other") rfl)
  have f_Crowd_moment : XFl K mg "Crowd" "moment" := xfl_of (He.glo_ok X G (c.fact 36 (f := .glo "Crowd") rfl)) (c00.at_ 7 (x := .exc "Crowd") rfl) (c00.at_ 4 (x := .xf "Crowd" "moment") rfl)
  have f_Crowd_place : XFl K mg "Crowd" "place" := xfl_of (He.glo_ok X G (c.fact 36 (f := .glo "Crowd") rfl)) (c00.at_ 7 (x := .exc "Crowd") rfl) (c00.at_ 5 (x := .xf "Crowd" "place") rfl)
  have f_Crowd_numbers : XFl K mg "Crowd" "numbers" := xfl_of (He.glo_ok X G (c.fact 36 (f := .glo "Crowd") rfl)) (c00.at_ 7 (x := .exc "Crowd") rfl) (c00.at_ 6 (x := .xf "Crowd" "numbers") rfl)
  have k_Crowd_KnockError : KN K mg "Crowd" "KnockError" true := kn_own (He.glo_ok X G (c.fact 36 (f := .glo "Crowd") rfl)) (He.glo_ok X G (c.fact 33 (f := .glo "KnockError") rfl)) (c00.at_ 7 (x := .exc "Crowd") rfl) (c00.at_ 163 (x := .own "Crowd" "KnockError" true) rfl)
  have k_NoBody_KnockError : KN K mg "NoBody" "KnockError" true := kn_own (He.glo_ok X G (c.fact 18 (f := .glo "NoBody") rfl)) (He.glo_ok X G (c.fact 33 (f := .glo "KnockError") rfl)) (c00.at_ 9 (x := .exc "NoBody") rfl) (c00.at_ 164 (x := .own "NoBody" "KnockError" true) rfl)
  have k_NoBox_KnockError : KN K mg "NoBox" "KnockError" true := kn_own (He.glo_ok X G (c.fact 30 (f := .glo "NoBox") rfl)) (He.glo_ok X G (c.fact 33 (f := .glo "KnockError") rfl)) (c00.at_ 11 (x := .exc "NoBox") rfl) (c00.at_ 165 (x := .own "NoBox" "KnockError" true) rfl)
  have k_NoMoment_KnockError : KN K mg "NoMoment" "KnockError" true := kn_own (He.glo_ok X G (c.fact 20 (f := .glo "NoMoment") rfl)) (He.glo_ok X G (c.fact 33 (f := .glo "KnockError") rfl)) (c00.at_ 13 (x := .exc "NoMoment") rfl) (c00.at_ 166 (x := .own "NoMoment" "KnockError" true) rfl)
  have k_NoNumber_KnockError : KN K mg "NoNumber" "KnockError" true := kn_own (He.glo_ok X G (c.fact 16 (f := .glo "NoNumber") rfl)) (He.glo_ok X G (c.fact 33 (f := .glo "KnockError") rfl)) (c00.at_ 15 (x := .exc "NoNumber") rfl) (c00.at_ 167 (x := .own "NoNumber" "KnockError" true) rfl)
  have k_NoRow_KnockError : KN K mg "NoRow" "KnockError" true := kn_own (He.glo_ok X G (c.fact 26 (f := .glo "NoRow") rfl)) (He.glo_ok X G (c.fact 33 (f := .glo "KnockError") rfl)) (c00.at_ 17 (x := .exc "NoRow") rfl) (c00.at_ 168 (x := .own "NoRow" "KnockError" true) rfl)
  have k_NoRun_KnockError : KN K mg "NoRun" "KnockError" true := kn_own (He.glo_ok X G (c.fact 28 (f := .glo "NoRun") rfl)) (He.glo_ok X G (c.fact 33 (f := .glo "KnockError") rfl)) (c00.at_ 19 (x := .exc "NoRun") rfl) (c00.at_ 169 (x := .own "NoRun" "KnockError" true) rfl)
  have k_NoShare_KnockError : KN K mg "NoShare" "KnockError" true := kn_own (He.glo_ok X G (c.fact 22 (f := .glo "NoShare") rfl)) (He.glo_ok X G (c.fact 33 (f := .glo "KnockError") rfl)) (c00.at_ 21 (x := .exc "NoShare") rfl) (c00.at_ 170 (x := .own "NoShare" "KnockError" true) rfl)
  have k_NoText_KnockError : KN K mg "NoText" "KnockError" true := kn_own (He.glo_ok X G (c.fact 34 (f := .glo "NoText") rfl)) (He.glo_ok X G (c.fact 33 (f := .glo "KnockError") rfl)) (c00.at_ 23 (x := .exc "NoText") rfl) (c00.at_ 171 (x := .own "NoText" "KnockError" true) rfl)
  have k_NoWorld_KnockError : KN K mg "NoWorld" "KnockError" true := kn_own (He.glo_ok X G (c.fact 32 (f := .glo "NoWorld") rfl)) (He.glo_ok X G (c.fact 33 (f := .glo "KnockError") rfl)) (c00.at_ 25 (x := .exc "NoWorld") rfl) (c00.at_ 172 (x := .own "NoWorld" "KnockError" true) rfl)
  have k_Overlap_KnockError : KN K mg "Overlap" "KnockError" true := kn_own (He.glo_ok X G (c.fact 35 (f := .glo "Overlap") rfl)) (He.glo_ok X G (c.fact 33 (f := .glo "KnockError") rfl)) (c00.at_ 27 (x := .exc "Overlap") rfl) (c00.at_ 173 (x := .own "Overlap" "KnockError" true) rfl)
  have k_TooMany_KnockError : KN K mg "TooMany" "KnockError" true := kn_own (He.glo_ok X G (c.fact 24 (f := .glo "TooMany") rfl)) (He.glo_ok X G (c.fact 33 (f := .glo "KnockError") rfl)) (c00.at_ 29 (x := .exc "TooMany") rfl) (c00.at_ 174 (x := .own "TooMany" "KnockError" true) rfl)
  have k_Crowd_ValueError : KN K mg "Crowd" "ValueError" true := kn_blt (He.glo_ok X G (c.fact 36 (f := .glo "Crowd") rfl)) z_ValueError (c00.at_ 7 (x := .exc "Crowd") rfl) (c00.at_ 175 (x := .blt "Crowd" "ValueError" "ValueError" true) rfl)
  have k_NoBody_ValueError : KN K mg "NoBody" "ValueError" true := kn_blt (He.glo_ok X G (c.fact 18 (f := .glo "NoBody") rfl)) z_ValueError (c00.at_ 9 (x := .exc "NoBody") rfl) (c00.at_ 176 (x := .blt "NoBody" "ValueError" "ValueError" true) rfl)
  have k_NoBox_ValueError : KN K mg "NoBox" "ValueError" true := kn_blt (He.glo_ok X G (c.fact 30 (f := .glo "NoBox") rfl)) z_ValueError (c00.at_ 11 (x := .exc "NoBox") rfl) (c00.at_ 177 (x := .blt "NoBox" "ValueError" "ValueError" true) rfl)
  have k_NoMoment_ValueError : KN K mg "NoMoment" "ValueError" true := kn_blt (He.glo_ok X G (c.fact 20 (f := .glo "NoMoment") rfl)) z_ValueError (c00.at_ 13 (x := .exc "NoMoment") rfl) (c00.at_ 178 (x := .blt "NoMoment" "ValueError" "ValueError" true) rfl)
  have k_NoNumber_ValueError : KN K mg "NoNumber" "ValueError" true := kn_blt (He.glo_ok X G (c.fact 16 (f := .glo "NoNumber") rfl)) z_ValueError (c00.at_ 15 (x := .exc "NoNumber") rfl) (c00.at_ 179 (x := .blt "NoNumber" "ValueError" "ValueError" true) rfl)
  have k_NoRow_ValueError : KN K mg "NoRow" "ValueError" true := kn_blt (He.glo_ok X G (c.fact 26 (f := .glo "NoRow") rfl)) z_ValueError (c00.at_ 17 (x := .exc "NoRow") rfl) (c00.at_ 180 (x := .blt "NoRow" "ValueError" "ValueError" true) rfl)
  have k_NoRun_ValueError : KN K mg "NoRun" "ValueError" true := kn_blt (He.glo_ok X G (c.fact 28 (f := .glo "NoRun") rfl)) z_ValueError (c00.at_ 19 (x := .exc "NoRun") rfl) (c00.at_ 181 (x := .blt "NoRun" "ValueError" "ValueError" true) rfl)
  have k_NoShare_ValueError : KN K mg "NoShare" "ValueError" true := kn_blt (He.glo_ok X G (c.fact 22 (f := .glo "NoShare") rfl)) z_ValueError (c00.at_ 21 (x := .exc "NoShare") rfl) (c00.at_ 182 (x := .blt "NoShare" "ValueError" "ValueError" true) rfl)
  have k_NoText_ValueError : KN K mg "NoText" "ValueError" true := kn_blt (He.glo_ok X G (c.fact 34 (f := .glo "NoText") rfl)) z_ValueError (c00.at_ 23 (x := .exc "NoText") rfl) (c00.at_ 183 (x := .blt "NoText" "ValueError" "ValueError" true) rfl)
  have k_NoWorld_ValueError : KN K mg "NoWorld" "ValueError" true := kn_blt (He.glo_ok X G (c.fact 32 (f := .glo "NoWorld") rfl)) z_ValueError (c00.at_ 25 (x := .exc "NoWorld") rfl) (c00.at_ 184 (x := .blt "NoWorld" "ValueError" "ValueError" true) rfl)
  have k_Overlap_ValueError : KN K mg "Overlap" "ValueError" true := kn_blt (He.glo_ok X G (c.fact 35 (f := .glo "Overlap") rfl)) z_ValueError (c00.at_ 27 (x := .exc "Overlap") rfl) (c00.at_ 185 (x := .blt "Overlap" "ValueError" "ValueError" true) rfl)
  have k_TooMany_ValueError : KN K mg "TooMany" "ValueError" true := kn_blt (He.glo_ok X G (c.fact 24 (f := .glo "TooMany") rfl)) z_ValueError (c00.at_ 29 (x := .exc "TooMany") rfl) (c00.at_ 186 (x := .blt "TooMany" "ValueError" "ValueError" true) rfl)
  have kb_NoWorld : KBase K mg "KnockError" := kbase_of (He.glo_ok X G (c.fact 33 (f := .glo "KnockError") rfl)) (c000.bt 1 (x := .kbs "KnockError") rfl)
  have i_NoWorld : ∀ base, XIni PySem.Challenge.pw_knockwright_k07_refusals_made w K mg base 1 "NoWorld" ["at"] := by
    intro base
    obtain ⟨fd, F⟩ := c.def_ 9 (d := ddI_NoWorld) rfl
    have oe := Xb.oex_ok (c000.bt 0 (x := .oex "NoWorld") rfl)
    have F' : L2.FunD K "__init__" "NoWorld.__init__" (L2.defArgs stI_NoWorld) (L2.defBody stI_NoWorld) (L2.defScope stI_NoWorld) _ _ (He.ma K (He.ga K "NoWorld") "__init__") fd := F
    exact xini1 (He.glo_ok X G (c.fact 32 (f := .glo "NoWorld") rfl)) oe.1 oe.2.1 oe.2.2 F' (L2.FunD.bindsN F fun _ _ _ _ _ _ us hl => match us, hl with | [_, _], _ => rfl) scI_NoWorld (of_decide_eq_true (c00.at_ 0 (x := .xf "NoWorld" "at") rfl)) fun cdv A outer s H E => L2.pss_cons (L2.ps_expr (pe_kinit kb_NoWorld (by rfl) (L2.pa_cons (L2.pv 0) (L2.pa_cons L2.pe_str L2.pa_nil rfl) rfl))) (L2.pss_one (L2.ps_ost (L2.pv 0) (L2.pv 1)))
  have kb_NoText : KBase K mg "KnockError" := kbase_of (He.glo_ok X G (c.fact 33 (f := .glo "KnockError") rfl)) (c000.bt 1 (x := .kbs "KnockError") rfl)
  have i_NoText : ∀ base, XIni PySem.Challenge.pw_knockwright_k07_refusals_made w K mg base 1 "NoText" ["line"] := by
    intro base
    obtain ⟨fd, F⟩ := c.def_ 10 (d := ddI_NoText) rfl
    have oe := Xb.oex_ok (c000.bt 2 (x := .oex "NoText") rfl)
    have F' : L2.FunD K "__init__" "NoText.__init__" (L2.defArgs stI_NoText) (L2.defBody stI_NoText) (L2.defScope stI_NoText) _ _ (He.ma K (He.ga K "NoText") "__init__") fd := F
    exact xini1 (He.glo_ok X G (c.fact 34 (f := .glo "NoText") rfl)) oe.1 oe.2.1 oe.2.2 F' (L2.FunD.bindsN F fun _ _ _ _ _ _ us hl => match us, hl with | [_, _], _ => rfl) scI_NoText (of_decide_eq_true (c00.at_ 1 (x := .xf "NoText" "line") rfl)) fun cdv A outer s H E => L2.pss_cons (L2.ps_expr (pe_kinit kb_NoText (by rfl) (L2.pa_cons (L2.pv 0) (L2.pa_cons L2.pe_str L2.pa_nil rfl) rfl))) (L2.pss_one (L2.ps_ost (L2.pv 0) (L2.pv 1)))
  have kb_Overlap : KBase K mg "KnockError" := kbase_of (He.glo_ok X G (c.fact 33 (f := .glo "KnockError") rfl)) (c000.bt 1 (x := .kbs "KnockError") rfl)
  have i_Overlap : ∀ base, XIni PySem.Challenge.pw_knockwright_k07_refusals_made w K mg base 1 "Overlap" ["one", "other"] := by
    intro base
    obtain ⟨fd, F⟩ := c.def_ 11 (d := ddI_Overlap) rfl
    have oe := Xb.oex_ok (c000.bt 3 (x := .oex "Overlap") rfl)
    have F' : L2.FunD K "__init__" "Overlap.__init__" (L2.defArgs stI_Overlap) (L2.defBody stI_Overlap) (L2.defScope stI_Overlap) _ _ (He.ma K (He.ga K "Overlap") "__init__") fd := F
    exact xini2 (He.glo_ok X G (c.fact 35 (f := .glo "Overlap") rfl)) oe.1 oe.2.1 oe.2.2 F' (L2.FunD.bindsN F fun _ _ _ _ _ _ us hl => match us, hl with | [_, _, _], _ => rfl) scI_Overlap (of_decide_eq_true (c00.at_ 2 (x := .xf "Overlap" "one") rfl)) (of_decide_eq_true (c00.at_ 3 (x := .xf "Overlap" "other") rfl)) fun cdv A outer s H E => L2.pss_cons (L2.ps_expr (pe_kinit kb_Overlap (by rfl) (L2.pa_cons (L2.pv 0) (L2.pa_cons L2.pe_str L2.pa_nil rfl) rfl))) (L2.pss_cons (L2.ps_ost (L2.pv 0) (L2.pv 1)) (L2.pss_one (L2.ps_ost (L2.pv 0) (L2.pv 2))))
  have kb_Crowd : KBase K mg "KnockError" := kbase_of (He.glo_ok X G (c.fact 33 (f := .glo "KnockError") rfl)) (c000.bt 1 (x := .kbs "KnockError") rfl)
  have i_Crowd : ∀ base, XIni PySem.Challenge.pw_knockwright_k07_refusals_made w K mg base 1 "Crowd" ["moment", "place", "numbers"] := by
    intro base
    obtain ⟨fd, F⟩ := c.def_ 12 (d := ddI_Crowd) rfl
    have oe := Xb.oex_ok (c000.bt 4 (x := .oex "Crowd") rfl)
    have F' : L2.FunD K "__init__" "Crowd.__init__" (L2.defArgs stI_Crowd) (L2.defBody stI_Crowd) (L2.defScope stI_Crowd) _ _ (He.ma K (He.ga K "Crowd") "__init__") fd := F
    exact xini3 (He.glo_ok X G (c.fact 36 (f := .glo "Crowd") rfl)) oe.1 oe.2.1 oe.2.2 F' (L2.FunD.bindsN F fun _ _ _ _ _ _ us hl => match us, hl with | [_, _, _, _], _ => rfl) scI_Crowd (of_decide_eq_true (c00.at_ 4 (x := .xf "Crowd" "moment") rfl)) (of_decide_eq_true (c00.at_ 5 (x := .xf "Crowd" "place") rfl)) (of_decide_eq_true (c00.at_ 6 (x := .xf "Crowd" "numbers") rfl)) fun cdv A outer s H E => L2.pss_cons (L2.ps_expr (pe_kinit kb_Crowd (by rfl) (L2.pa_cons (L2.pv 0) (L2.pa_cons L2.pe_str L2.pa_nil rfl) rfl))) (L2.pss_cons (L2.ps_ost (L2.pv 0) (L2.pv 1)) (L2.pss_cons (L2.ps_ost (L2.pv 0) (L2.pv 2)) (L2.pss_one (L2.ps_ost (L2.pv 0) (L2.pv 3)))))
  obtain ⟨fd, F⟩ := c.def_ 8 (d := dd_law) rfl
  have b := L2.FunD.bindsA (ps := ["script"]) F fun _ _ _ _ _ _ us hl => match us, hl with | [_], _ => rfl
  exact law_end (st := topS 23) (qual := "law") hfa (He.glo_ok X G (c.fact 8 (f := .glo "law") rfl)) F (fun s v => b s [v] rfl) fun base kb nb => law_def base a__law_cell z_len a__law_mix a__law_box y_K z_range a__law_fit z_abs a__law_made x_NoNumber x_NoBody x_NoMoment x_NoShare x_TooMany x_NoRow x_NoRun x_NoBox (i_NoWorld base) (i_NoText base) (i_Overlap base) (i_Crowd base) a__law_take z_divmod a__law_marks k_Crowd_NoNumber k_NoBody_NoNumber k_NoBox_NoNumber k_NoMoment_NoNumber k_NoNumber_NoNumber k_NoRow_NoNumber k_NoRun_NoNumber k_NoShare_NoNumber k_NoText_NoNumber k_NoWorld_NoNumber k_Overlap_NoNumber k_TooMany_NoNumber k_Crowd_NoBody k_NoBody_NoBody k_NoBox_NoBody k_NoMoment_NoBody k_NoNumber_NoBody k_NoRow_NoBody k_NoRun_NoBody k_NoShare_NoBody k_NoText_NoBody k_NoWorld_NoBody k_Overlap_NoBody k_TooMany_NoBody k_Crowd_NoMoment k_NoBody_NoMoment k_NoBox_NoMoment k_NoMoment_NoMoment k_NoNumber_NoMoment k_NoRow_NoMoment k_NoRun_NoMoment k_NoShare_NoMoment k_NoText_NoMoment k_NoWorld_NoMoment k_Overlap_NoMoment k_TooMany_NoMoment k_Crowd_NoShare k_NoBody_NoShare k_NoBox_NoShare k_NoMoment_NoShare k_NoNumber_NoShare k_NoRow_NoShare k_NoRun_NoShare k_NoShare_NoShare k_NoText_NoShare k_NoWorld_NoShare k_Overlap_NoShare k_TooMany_NoShare k_Crowd_TooMany k_NoBody_TooMany k_NoBox_TooMany k_NoMoment_TooMany k_NoNumber_TooMany k_NoRow_TooMany k_NoRun_TooMany k_NoShare_TooMany k_NoText_TooMany k_NoWorld_TooMany k_Overlap_TooMany k_TooMany_TooMany k_Crowd_NoRow k_NoBody_NoRow k_NoBox_NoRow k_NoMoment_NoRow k_NoNumber_NoRow k_NoRow_NoRow k_NoRun_NoRow k_NoShare_NoRow k_NoText_NoRow k_NoWorld_NoRow k_Overlap_NoRow k_TooMany_NoRow k_Crowd_NoRun k_NoBody_NoRun k_NoBox_NoRun k_NoMoment_NoRun k_NoNumber_NoRun k_NoRow_NoRun k_NoRun_NoRun k_NoShare_NoRun k_NoText_NoRun k_NoWorld_NoRun k_Overlap_NoRun k_TooMany_NoRun k_Crowd_NoBox k_NoBody_NoBox k_NoBox_NoBox k_NoMoment_NoBox k_NoNumber_NoBox k_NoRow_NoBox k_NoRun_NoBox k_NoShare_NoBox k_NoText_NoBox k_NoWorld_NoBox k_Overlap_NoBox k_TooMany_NoBox k_Crowd_NoWorld k_NoBody_NoWorld k_NoBox_NoWorld k_NoMoment_NoWorld k_NoNumber_NoWorld k_NoRow_NoWorld k_NoRun_NoWorld k_NoShare_NoWorld k_NoText_NoWorld k_NoWorld_NoWorld k_Overlap_NoWorld k_TooMany_NoWorld k_Crowd_NoText k_NoBody_NoText k_NoBox_NoText k_NoMoment_NoText k_NoNumber_NoText k_NoRow_NoText k_NoRun_NoText k_NoShare_NoText k_NoText_NoText k_NoWorld_NoText k_Overlap_NoText k_TooMany_NoText k_Crowd_Overlap k_NoBody_Overlap k_NoBox_Overlap k_NoMoment_Overlap k_NoNumber_Overlap k_NoRow_Overlap k_NoRun_Overlap k_NoShare_Overlap k_NoText_Overlap k_NoWorld_Overlap k_Overlap_Overlap k_TooMany_Overlap k_Crowd_Crowd k_NoBody_Crowd k_NoBox_Crowd k_NoMoment_Crowd k_NoNumber_Crowd k_NoRow_Crowd k_NoRun_Crowd k_NoShare_Crowd k_NoText_Crowd k_NoWorld_Crowd k_Overlap_Crowd k_TooMany_Crowd z_isinstance a__law_keeps f_NoWorld_at f_NoText_line f_Overlap_one f_Overlap_other f_Crowd_moment f_Crowd_place f_Crowd_numbers a_law k_Crowd_KnockError k_NoBody_KnockError k_NoBox_KnockError k_NoMoment_KnockError k_NoNumber_KnockError k_NoRow_KnockError k_NoRun_KnockError k_NoShare_KnockError k_NoText_KnockError k_NoWorld_KnockError k_Overlap_KnockError k_TooMany_KnockError k_Crowd_ValueError z_ValueError k_NoBody_ValueError k_NoBox_ValueError k_NoMoment_ValueError k_NoNumber_ValueError k_NoRow_ValueError k_NoRun_ValueError k_NoShare_ValueError k_NoText_ValueError k_NoWorld_ValueError k_Overlap_ValueError k_TooMany_ValueError
end VS
open PySem PySem.W PySem.Calls PyProof.Rows
set_option maxHeartbeats 0 in
theorem PySem.Challenge.cw_knockwright_k07_refusals_made_holds : PySem.Challenge.rw_knockwright_k07_refusals_made.Holds := by
  w_on; o_law
  refine HandSHeadRun.head_any (r := OpenLaw.row PySem.Challenge.rw_knockwright_k07_refusals_made) (q := view (OpenLaw.row PySem.Challenge.rw_knockwright_k07_refusals_made).prog [23]) (H := VS.hk) (ob := VS.ob) (M := 6000) (loose := VS.loose) (d := HandSHeadRun.topDef (OpenLaw.row PySem.Challenge.rw_knockwright_k07_refusals_made).prog 23) (kwd := []) VS.ob_eq
    (by kernel_rfl) (fun s => by kernel_rfl) VS.run (by kernel_rfl) (by kernel_rfl) (by kernel_rfl) (by rfl) (by first | assumption | decide +kernel) (by decide +kernel) ⟨rfl, rfl, rfl, rfl, rfl, by decide +kernel⟩ ?hw ?hc
  case hw => w_witness2
  case hc =>
    refine LamX.walk_ofTsE (l := PySem.Challenge.rw_knockwright_k07_refusals_made) (n := 63) (k := 35) (x := "script") (CX := fun w => L2.CX PySem.Challenge.pw_knockwright_k07_refusals_made w) rfl (by decide) (by kernel_rfl) ⟨rfl, by decide, by decide⟩ ?F (fun _ _ _ _ _ h => VS.cx_end h)
    intro w mg fa h Y G hmg0
    obtain ⟨K, KX, c⟩ := Y
    have hmg : mg ("law" : PySem.Str) = some (.ref fa) := by
      have e : (HandSHeadRun.topDef (OpenLaw.row PySem.Challenge.rw_knockwright_k07_refusals_made).prog 23).name = ("law" : PySem.Str) := by kernel_rfl
      rw [← e]
      exact hmg0
    exact ⟨K, KX, VS.law_all KX G hmg c⟩
#print axioms PySem.Challenge.cw_knockwright_k07_refusals_made_holds
