import PyProof.Rows.All
import Wide.All
import OpenK.AllK
import Wide.FinOn
import HandS.ForMost
import HandS.IsInst
import HandS.TupAny
import HandS.TupMul
import HandS.Deep
import HandS.Wide
import HandS.Flow
import HandS.Style
import HandS.Zip
import HandS.Conv
import HandS.SortInts
import HandS.More
import HandS.SetFor
import HandS.Strs
import PySem.Challenge.RW_allrunstold_k14_whole_flows_to_two_hundr
set_option Elab.async false
set_option linter.all false
set_option maxRecDepth 100000
set_option maxHeartbeats 4000000
/-! The pure layer: values without addresses for tuples, an abstract store for lists and dicts, judgements over them. -/
namespace PL
open PySem PySem.Spec PyProof.Rows L2

abbrev Fr8 := PySem.W.Frag
/-- pure values; a tuple is its items, so is a list that nobody changes (rol); ref: a list, a dict -/
inductive PV where
  | non | bl (b : Bool) | int (i : Int) | str (x : Str) | tup (xs : List PV) | rol (xs : List PV) | ref (a : Addr) | dic (kvs : List (Key × PV))
instance : Inhabited PV := ⟨.non⟩
/-- what the store holds -/
inductive PO where
  | lst (xs : List PV) | dK (kvs : List (Key × PV)) | dT (kvs : List (List Key × PV))
abbrev Sto := Addr → Option PO
abbrev Nv := List (Option PV)
def updS (S : Sto) (a : Addr) (o : PO) : Sto := fun b => if b = a then some o else S b
theorem updS_same {S : Sto} {a : Addr} {o : PO} : updS S a o a = some o := by unfold updS; rw [if_pos rfl]
theorem updS_ne {S : Sto} {a b : Addr} {o : PO} (h : b ≠ a) : updS S a o b = S b := by unfold updS; rw [if_neg h]
theorem updS_updS {S : Sto} {a : Addr} {o u : PO} : updS (updS S a o) a u = updS S a u := by
  funext b; unfold updS; split <;> rfl
def SubS (S S' : Sto) : Prop := ∀ a o, S a = some o → S' a = some o
theorem SubS.refl (S : Sto) : SubS S S := fun _ _ h => h
theorem SubS.trans {S S1 S2 : Sto} (a : SubS S S1) (b : SubS S1 S2) : SubS S S2 := fun c o h => b c o (a c o h)
theorem SubS.fresh {S S1 : Sto} {p : Addr} {o : PO} (a : SubS S S1) (h : S1 p = none) : SubS S (updS S1 p o) := fun c u q => by
  have q1 := a c u q
  rw [updS_ne (fun e => by rw [e, h] at q1; cases q1)]; exact q1
theorem SubS.both {S S1 : Sto} {p : Addr} {o : PO} (a : SubS S S1) : SubS (updS S p o) (updS S1 p o) := fun c u q => by
  by_cases e : c = p
  · subst e; rw [updS_same] at q ⊢; exact q
  · rw [updS_ne e] at q ⊢; exact a c u q
theorem SubS.none {S S1 : Sto} {p : Addr} (a : SubS S S1) (h : S1 p = Option.none) : S p = Option.none := by
  cases q : S p with
  | none => rfl
  | some o => rw [a p o q] at h; cases h

/-- forgotten -/
def dropS (S : Sto) (a : Addr) : Sto := fun b => if b = a then none else S b
theorem dropS_same {S : Sto} {a : Addr} : dropS S a a = none := by unfold dropS; rw [if_pos rfl]
theorem dropS_ne {S : Sto} {a b : Addr} (h : b ≠ a) : dropS S a b = S b := by unfold dropS; rw [if_neg h]
theorem dropS_new {S : Sto} {a : Addr} {o : PO} (h : S a = none) : dropS (updS S a o) a = S := by
  funext b
  by_cases e : b = a
  · subst e; rw [dropS_same, h]
  · rw [dropS_ne e, updS_ne e]
/-- a list that nobody changes -/
def RoL (K : Fr8) (H : Hp) (a : Addr) (xs : List V) : Prop := (∃ o, H a = some (.frz o (.lst xs))) ∨
    ∃ (o : Obj) (its : Array Value) (n : Nat), K.lookup a = some o ∧ o.cls = .type "list" ∧ o.dict = none ∧ o.data = .seq its n ∧ its.size ≤ sizeLine ∧ Vals xs its.toList
theorem RoL.sq {K : Fr8} {H : Hp} {a : Addr} {xs : List V} (h : RoL K H a xs) : SqL K H a xs := by
  rcases h with ⟨o, h⟩ | h
  · exact .inl (.inr ⟨o, h⟩)
  · exact .inr h
mutual
inductive RepV (K : Fr8) (H : Hp) : PV → V → Prop
  | non : RepV K H .non .non
  | bl (b : Bool) : RepV K H (.bl b) (.bl b)
  | int (i : Int) : RepV K H (.int i) (.int i)
  | str (x : Str) : RepV K H (.str x) (.str x)
  | tup {xs : List PV} {a : Addr} {vs : List V} : SqT K H a vs → RepVs K H xs vs → RepV K H (.tup xs) (.ref a)
  | rol {xs : List PV} {a : Addr} {vs : List V} : RoL K H a vs → RepVs K H xs vs → RepV K H (.rol xs) (.ref a)
  | ref (a : Addr) : RepV K H (.ref a) (.ref a)
  | dic {kvs : List (Key × PV)} {a : Addr} {o : Obj} {ws : List (Key × V)} : H a = some (.frz o (.dK ws)) → kvs.map (·.1) = ws.map (·.1) → RepVs K H (kvs.map (·.2)) (ws.map (·.2)) → RepV K H (.dic kvs) (.ref a)
inductive RepVs (K : Fr8) (H : Hp) : List PV → List V → Prop
  | nil : RepVs K H [] []
  | cons {x : PV} {v : V} {xs : List PV} {vs : List V} : RepV K H x v → RepVs K H xs vs → RepVs K H (x :: xs) (v :: vs)
end
/-- tuples stay -/
structure TExt (K : Fr8) (H H' : Hp) : Prop where
  tup : ∀ a vs, SqT K H a vs → SqT K H' a vs
  rol : ∀ a vs, RoL K H a vs → RoL K H' a vs
  lk : ∀ a o u, H a = some (.frz o u) → H' a = some (.frz o u)
theorem TExt.refl (K : Fr8) (H : Hp) : TExt K H H := ⟨fun _ _ h => h, fun _ _ h => h, fun _ _ _ h => h⟩
theorem TExt.trans {K : Fr8} {H H1 H2 : Hp} (a : TExt K H H1) (b : TExt K H1 H2) : TExt K H H2 := ⟨fun c o h => b.tup c o (a.tup c o h), fun c o h => b.rol c o (a.rol c o h), fun c o u h => b.lk c o u (a.lk c o u h)⟩
theorem TExt.new {K : Fr8} {H : Hp} {p : Addr} {o : HO} (h : H p = none) : TExt K H (upd H p o) := by
  refine ⟨fun a vs q => ?_, fun a vs q => q.imp (fun ⟨u, q⟩ => ⟨u, by rw [upd_ne (ne_of_none q h)]; exact q⟩) id, fun a o u q => by rw [upd_ne (ne_of_none q h)]; exact q⟩
  rcases q with (q | ⟨u, q⟩) | q
  · exact .inl (.inl (by rw [upd_ne (ne_of_none q h)]; exact q))
  · exact .inl (.inr ⟨u, by rw [upd_ne (ne_of_none q h)]; exact q⟩)
  · exact .inr q
def NotTup : HO → Prop
  | .tup _ => False
  | .frz _ _ => False
  | _ => True
theorem TExt.set {K : Fr8} {H : Hp} {p : Addr} {o u : HO} (h : H p = some u) (n : NotTup u) : TExt K H (upd H p o) := by
  refine ⟨fun a vs q => ?_, fun a vs q => q.imp (fun ⟨w, q⟩ => ⟨w, by rw [upd_ne (ne_of q h (by intro e; subst e; exact n))]; exact q⟩) id, fun a o w q => by rw [upd_ne (ne_of q h (by intro e; subst e; exact n))]; exact q⟩
  rcases q with (q | ⟨w, q⟩) | q
  · exact .inl (.inl (by rw [upd_ne (ne_of q h (by intro e; subst e; exact n))]; exact q))
  · exact .inl (.inr ⟨w, by rw [upd_ne (ne_of q h (by intro e; subst e; exact n))]; exact q⟩)
  · exact .inr q
mutual
theorem RepV.mono {K : Fr8} {H H' : Hp} (t : TExt K H H') : ∀ {x : PV} {v : V}, RepV K H x v → RepV K H' x v
  | _, _, .non => .non
  | _, _, .bl b => .bl b
  | _, _, .int i => .int i
  | _, _, .str x => .str x
  | _, _, .tup h r => .tup (t.tup _ _ h) (RepVs.mono t r)
  | _, _, .rol h r => .rol (t.rol _ _ h) (RepVs.mono t r)
  | _, _, .ref a => .ref a
  | _, _, .dic h e r => .dic (t.lk _ _ _ h) e (RepVs.mono t r)
theorem RepVs.mono {K : Fr8} {H H' : Hp} (t : TExt K H H') : ∀ {xs : List PV} {vs : List V}, RepVs K H xs vs → RepVs K H' xs vs
  | _, _, .nil => .nil
  | _, _, .cons r rs => .cons (RepV.mono t r) (RepVs.mono t rs)
end
theorem RepVs.length {K : Fr8} {H : Hp} : ∀ {xs : List PV} {vs : List V}, RepVs K H xs vs → xs.length = vs.length
  | _, _, .nil => rfl
  | _, _, .cons _ t => by rw [List.length_cons, List.length_cons, RepVs.length t]
theorem RepVs.get {K : Fr8} {H : Hp} : ∀ {xs : List PV} {vs : List V} {i : Nat} {x : PV}, RepVs K H xs vs → xs[i]? = some x → ∃ v, vs[i]? = some v ∧ RepV K H x v
  | _, _, _, _, .nil, e => by simp at e
  | _, _, 0, _, .cons r _, e => by simp at e; subst e; exact ⟨_, rfl, r⟩
  | _, _, i + 1, x, .cons _ t, e => by
    obtain ⟨u, h1, h2⟩ := RepVs.get (i := i) (x := x) t (by simpa using e)
    exact ⟨u, by simpa using h1, h2⟩
theorem RepVs.app {K : Fr8} {H : Hp} : ∀ {xs ys : List PV} {vs ws : List V}, RepVs K H xs vs → RepVs K H ys ws → RepVs K H (xs ++ ys) (vs ++ ws)
  | _, _, _, _, .nil, s => s
  | _, _, _, _, .cons r t, s => .cons r (RepVs.app t s)
theorem RepVs.take {K : Fr8} {H : Hp} : ∀ {xs : List PV} {vs : List V} (n : Nat), RepVs K H xs vs → RepVs K H (xs.take n) (vs.take n)
  | _, _, 0, _ => .nil
  | _, _, _ + 1, .nil => .nil
  | _, _, n + 1, .cons r t => .cons r (RepVs.take n t)
theorem RepVs.drop {K : Fr8} {H : Hp} : ∀ {xs : List PV} {vs : List V} (n : Nat), RepVs K H xs vs → RepVs K H (xs.drop n) (vs.drop n)
  | _, _, 0, r => r
  | _, _, _ + 1, .nil => .nil
  | _, _, n + 1, .cons _ t => RepVs.drop n t
theorem RepVs.set {K : Fr8} {H : Hp} {x : PV} {v : V} (r : RepV K H x v) : ∀ {xs : List PV} {vs : List V} (i : Nat), RepVs K H xs vs → RepVs K H (xs.set i x) (vs.set i v)
  | _, _, _, .nil => .nil
  | _, _, 0, .cons _ t => .cons r t
  | _, _, i + 1, .cons q t => .cons q (RepVs.set r i t)
theorem RepVs.reverse {K : Fr8} {H : Hp} {xs : List PV} {vs : List V} (r : RepVs K H xs vs) : RepVs K H xs.reverse vs.reverse := by
  induction xs generalizing vs with
  | nil => cases r; exact .nil
  | cons x xs ih =>
    cases r with
    | cons r t => rw [List.reverse_cons, List.reverse_cons]; exact (ih t).app (.cons r .nil)
theorem RepVs.eraseIdx {K : Fr8} {H : Hp} : ∀ {xs : List PV} {vs : List V} (i : Nat), RepVs K H xs vs → RepVs K H (xs.eraseIdx i) (vs.eraseIdx i)
  | _, _, _, .nil => .nil
  | _, _, 0, .cons _ t => t
  | _, _, i + 1, .cons q t => .cons q (RepVs.eraseIdx i t)
theorem RepVs.dropLast {K : Fr8} {H : Hp} {xs : List PV} {vs : List V} (r : RepVs K H xs vs) : RepVs K H xs.dropLast vs.dropLast := by
  rw [List.dropLast_eq_take, List.dropLast_eq_take, r.length]; exact r.take _
theorem RepVs.rep {K : Fr8} {H : Hp} {xs : List PV} {vs : List V} (r : RepVs K H xs vs) : ∀ n : Nat, RepVs K H (List.replicate n xs).flatten (List.replicate n vs).flatten
  | 0 => .nil
  | n + 1 => by rw [List.replicate_succ, List.replicate_succ, List.flatten_cons, List.flatten_cons]; exact r.app (RepVs.rep r n)

def RepO (K : Fr8) (H : Hp) (a : Addr) : PO → Prop
  | .lst xs => ∃ vs, H a = some (.lst vs) ∧ RepVs K H xs vs
  | .dK kvs => ∃ ws : List (Key × V), H a = some (.dK ws) ∧ kvs.map (·.1) = ws.map (·.1) ∧ RepVs K H (kvs.map (·.2)) (ws.map (·.2))
  | .dT kvs => ∃ ws : List (List Key × V), H a = some (.dT ws) ∧ kvs.map (·.1) = ws.map (·.1) ∧ RepVs K H (kvs.map (·.2)) (ws.map (·.2))
def RepS (K : Fr8) (S : Sto) (H : Hp) : Prop := ∀ a o, S a = some o → RepO K H a o
theorem RepS.sub {K : Fr8} {S S' : Sto} {H : Hp} (r : RepS K S' H) (s : SubS S S') : RepS K S H := fun a o h => r a o (s a o h)
/-- all tracked mutable things of the store stay -/
theorem RepO.at_ne {K : Fr8} {H : Hp} {a p : Addr} {o : PO} {u : HO} (t : TExt K H (upd H p u)) (h : a ≠ p) (r : RepO K H a o) : RepO K (upd H p u) a o := by
  cases o with
  | lst xs => obtain ⟨vs, e, q⟩ := r; exact ⟨vs, by rw [upd_ne h]; exact e, q.mono t⟩
  | dK kvs => obtain ⟨vs, e, k, q⟩ := r; exact ⟨vs, by rw [upd_ne h]; exact e, k, q.mono t⟩
  | dT kvs => obtain ⟨vs, e, k, q⟩ := r; exact ⟨vs, by rw [upd_ne h]; exact e, k, q.mono t⟩
theorem RepS.new {K : Fr8} {S : Sto} {H : Hp} {p : Addr} {o : PO} {u : HO} (r : RepS K S H) (h : H p = none) (n : RepO K (upd H p u) p o) : RepS K (updS S p o) (upd H p u) := fun a x e => by
  have t : TExt K H (upd H p u) := TExt.new h
  by_cases ha : a = p
  · subst ha; rw [updS_same] at e; cases e; exact n
  · rw [updS_ne ha] at e; exact (r a x e).at_ne t ha
/-- a new thing that the store does not hear of -/
theorem RepS.newT {K : Fr8} {S : Sto} {H : Hp} {p : Addr} {u : HO} (r : RepS K S H) (h : H p = none) : RepS K S (upd H p u) := fun a x e => by
  have t : TExt K H (upd H p u) := TExt.new h
  by_cases ha : a = p
  · subst ha
    have q := r a x e
    cases x with
    | lst xs => obtain ⟨vs, e1, _⟩ := q; rw [h] at e1; cases e1
    | dK kvs => obtain ⟨vs, e1, _⟩ := q; rw [h] at e1; cases e1
    | dT kvs => obtain ⟨vs, e1, _⟩ := q; rw [h] at e1; cases e1
  · exact (r a x e).at_ne t ha
theorem RepS.set {K : Fr8} {S : Sto} {H : Hp} {p : Addr} {o : PO} {u w : HO} (r : RepS K S H) (h : H p = some w) (nt : NotTup w) (n : RepO K (upd H p u) p o) : RepS K (updS S p o) (upd H p u) := fun a x e => by
  have t : TExt K H (upd H p u) := TExt.set h nt
  by_cases ha : a = p
  · subst ha; rw [updS_same] at e; cases e; exact n
  · rw [updS_ne ha] at e; exact (r a x e).at_ne t ha

/-- a list is frozen, and forgotten as one that changes -/
theorem RepS.frz {K : Fr8} {S : Sto} {H : Hp} {p : Addr} {w u : HO} (r : RepS K S H) (h : H p = some w) (nt : NotTup w) : RepS K (dropS S p) (upd H p u) := fun a x e => by
  have t : TExt K H (upd H p u) := TExt.set h nt
  by_cases ha : a = p
  · subst ha; rw [dropS_same] at e; cases e
  · rw [dropS_ne ha] at e; exact (r a x e).at_ne t ha
/-- a thing that is locked is none of the store -/
theorem RepS.ne_frz {K : Fr8} {S : Sto} {H : Hp} {a p : Addr} {x : PO} {o : Obj} {u : HO} (r : RepS K S H) (h : H p = some (.frz o u)) (e : S a = some x) : a ≠ p := by
  intro z
  subst z
  have q := r a x e
  cases x with
  | lst xs => obtain ⟨_, e1, _⟩ := q; rw [h] at e1; cases e1
  | dK xs => obtain ⟨_, e1, _⟩ := q; rw [h] at e1; cases e1
  | dT xs => obtain ⟨_, e1, _⟩ := q; rw [h] at e1; cases e1
/-! ### a list locked while others run: twice frozen, so that no value tells of it -/
abbrev lkd (od : Obj) (vs : List V) : HO := .frz od (.frz od (.lst vs))
structure TExt0 (K : Fr8) (H H' : Hp) : Prop where
  tup : ∀ a vs, SqT K H a vs → SqT K H' a vs
  rol : ∀ a vs, RoL K H a vs → RoL K H' a vs
  dic : ∀ a o ws, H a = some (.frz o (.dK ws)) → H' a = some (.frz o (.dK ws))
mutual
theorem RepV.mono0 {K : Fr8} {H H' : Hp} (t : TExt0 K H H') : ∀ {x : PV} {v : V}, RepV K H x v → RepV K H' x v
  | _, _, .non => .non
  | _, _, .bl b => .bl b
  | _, _, .int i => .int i
  | _, _, .str x => .str x
  | _, _, .tup h r => .tup (t.tup _ _ h) (RepVs.mono0 t r)
  | _, _, .rol h r => .rol (t.rol _ _ h) (RepVs.mono0 t r)
  | _, _, .ref a => .ref a
  | _, _, .dic h e r => .dic (t.dic _ _ _ h) e (RepVs.mono0 t r)
theorem RepVs.mono0 {K : Fr8} {H H' : Hp} (t : TExt0 K H H') : ∀ {xs : List PV} {vs : List V}, RepVs K H xs vs → RepVs K H' xs vs
  | _, _, .nil => .nil
  | _, _, .cons r rs => .cons (RepV.mono0 t r) (RepVs.mono0 t rs)
end
theorem TExt.z {K : Fr8} {H H' : Hp} (t : TExt K H H') : TExt0 K H H' := ⟨t.tup, t.rol, fun a o ws h => t.lk a o _ h⟩
theorem TExt0.trans {K : Fr8} {H H1 H2 : Hp} (a : TExt0 K H H1) (b : TExt0 K H1 H2) : TExt0 K H H2 := ⟨fun c o h => b.tup c o (a.tup c o h), fun c o h => b.rol c o (a.rol c o h), fun c o u h => b.dic c o u (a.dic c o u h)⟩
theorem TExt0.unlk {K : Fr8} {H : Hp} {D : Addr} {od : Obj} {vs : List V} {u : HO} (h : H D = some (lkd od vs)) : TExt0 K H (upd H D u) := by
  refine ⟨fun a ws q => ?_, fun a ws q => q.imp (fun ⟨w, q⟩ => ⟨w, by rw [upd_ne (ne_of q h (by intro e; cases e))]; exact q⟩) id, fun a o ws q => by rw [upd_ne (ne_of q h (by intro e; cases e))]; exact q⟩
  rcases q with (q | ⟨w, q⟩) | q
  · exact .inl (.inl (by rw [upd_ne (ne_of q h (by intro e; cases e))]; exact q))
  · exact .inl (.inr ⟨w, by rw [upd_ne (ne_of q h (by intro e; cases e))]; exact q⟩)
  · exact .inr q
theorem RepS.unlk {K : Fr8} {S : Sto} {H : Hp} {D : Addr} {od : Obj} {vs : List V} {u : HO} (r : RepS K S H) (h : H D = some (lkd od vs)) : RepS K S (upd H D u) := fun a x e => by
  have ne := r.ne_frz h e
  have q := r a x e
  have t : TExt0 K H (upd H D u) := TExt0.unlk h
  cases x with
  | lst xs => obtain ⟨vs, e, q⟩ := q; exact ⟨vs, by rw [upd_ne ne]; exact e, q.mono0 t⟩
  | dK xs => obtain ⟨vs, e, k, q⟩ := q; exact ⟨vs, by rw [upd_ne ne]; exact e, k, q.mono0 t⟩
  | dT xs => obtain ⟨vs, e, k, q⟩ := q; exact ⟨vs, by rw [upd_ne ne]; exact e, k, q.mono0 t⟩
/-- locked -/
theorem RepS.lk {K : Fr8} {S : Sto} {H : Hp} {p : Addr} {w u : HO} (r : RepS K S H) (hS : S p = none) (h : H p = some w) (nt : NotTup w) : RepS K S (upd H p u) := fun a x e => by
  have t : TExt K H (upd H p u) := TExt.set h nt
  by_cases ha : a = p
  · subst ha; rw [hS] at e; cases e
  · exact (r a x e).at_ne t ha
/-- from ahead of a list's making on to behind its unlocking -/
theorem TExt.lockd {K : Fr8} {H1 Ha Hb : Hp} {D : Addr} {od : Obj} {vs : List V} {u : HO} (hD : H1 D = none) (t : TExt K H1 Ha) (ha : Ha D = some (.lst vs)) (t2 : TExt K (upd Ha D (lkd od vs)) Hb) (hb : Hb D = some (lkd od vs)) : TExt K H1 (upd Hb D u) := by
  have t1 : TExt K H1 Hb := (t.trans (TExt.set ha trivial)).trans t2
  have t0 : TExt0 K Hb (upd Hb D u) := TExt0.unlk hb
  exact ⟨fun a ws q => t0.tup a ws (t1.tup a ws q), fun a ws q => t0.rol a ws (t1.rol a ws q), fun a o w q => by rw [upd_ne (ne_of_none q hD)]; exact t1.lk a o w q⟩

/-- a free place is no place of the store -/
theorem RepS.free {K : Fr8} {S : Sto} {H : Hp} {p : Addr} (r : RepS K S H) (h : H p = none) : S p = none := by
  cases q : S p with
  | none => rfl
  | some o =>
    have z := r p o q
    cases o with
    | lst xs => obtain ⟨_, e, _⟩ := z; rw [h] at e; cases e
    | dK xs => obtain ⟨_, e, _⟩ := z; rw [h] at e; cases e
    | dT xs => obtain ⟨_, e, _⟩ := z; rw [h] at e; cases e

def RepE (K : Fr8) (H : Hp) (ρ : Nv) (σ : L2.St) : Prop := ρ.length = σ.length ∧ ∀ (i : Nat) (x : PV), ρ[i]? = some (some x) → ∃ v, σ[i]? = some (some v) ∧ RepV K H x v
theorem RepE.mono {K : Fr8} {H H' : Hp} {ρ : Nv} {σ : L2.St} (r : RepE K H ρ σ) (t : TExt K H H') : RepE K H' ρ σ := ⟨r.1, fun i x e => let ⟨v, a, b⟩ := r.2 i x e; ⟨v, a, b.mono t⟩⟩
theorem RepE.mono0 {K : Fr8} {H H' : Hp} {ρ : Nv} {σ : L2.St} (r : RepE K H ρ σ) (t : TExt0 K H H') : RepE K H' ρ σ := ⟨r.1, fun i x e => let ⟨v, a, b⟩ := r.2 i x e; ⟨v, a, b.mono0 t⟩⟩
theorem RepE.set {K : Fr8} {H : Hp} {ρ : Nv} {σ : L2.St} {i : Nat} {x : PV} {v : V} (r : RepE K H ρ σ) (q : RepV K H x v) : RepE K H (ρ.set i (some x)) (σ.set i (some v)) := by
  refine ⟨by rw [List.length_set, List.length_set]; exact r.1, fun j y e => ?_⟩
  by_cases h : i = j
  · subst h
    by_cases hl : i < ρ.length
    · rw [List.getElem?_set_self hl] at e
      cases e
      exact ⟨v, List.getElem?_set_self (by rw [← r.1]; exact hl), q⟩
    · rw [List.getElem?_eq_none (by rw [List.length_set]; omega)] at e; cases e
  · rw [List.getElem?_set_ne h] at e ⊢; exact r.2 j y e
/-- the slots of a block's own names forgotten -/
@[simp] def wipeP (ρ : Nv) : List Nat → Nv
  | [] => ρ
  | v :: vs => (wipeP ρ vs).set v none
theorem wipeP_len (ρ : Nv) : ∀ vs : List Nat, (wipeP ρ vs).length = ρ.length
  | [] => rfl
  | v :: vs => by unfold wipeP; rw [List.length_set, wipeP_len ρ vs]
theorem RepE.wipes {K : Fr8} {H : Hp} {ρ : Nv} {σ : L2.St} (r : RepE K H ρ σ) : ∀ vs : List Nat, RepE K H (wipeP ρ vs) (L2.wipe σ vs)
  | [] => r
  | v :: vs => by
    have q := RepE.wipes r vs
    unfold wipeP L2.wipe
    refine ⟨by rw [List.length_set, List.length_set]; exact q.1, fun j y e => ?_⟩
    by_cases h : v = j
    · subst h
      by_cases hl : v < (wipeP ρ vs).length
      · rw [List.getElem?_set_self hl] at e; cases e
      · rw [List.getElem?_eq_none (by rw [List.length_set]; omega)] at e; cases e
    · rw [List.getElem?_set_ne h] at e ⊢; exact q.2 j y e

/-! ### pure readings -/
abbrev PK1 := PV → Sto → Prop
abbrev PTE := Nv → Sto → PK1 → Prop
abbrev PTT := Nv → Sto → (Bool → Sto → Prop) → Prop
abbrev PTA := Nv → Sto → (List PV → Sto → Prop) → Prop
structure PEnds where
  nx : Nv → Sto → Prop
  rt : PK1
  bk : Nv → Sto → Prop := fun _ _ => False
  ct : Nv → Sto → Prop := fun _ _ => False
abbrev PTS := PEnds → Nv → Sto → Prop

def ClE (K : Fr8) (H : Hp) (Q0 : PK1) (Q : VK) : Prop := ∀ x S' H' v, Q0 x S' → TExt K H H' → RepS K S' H' → RepV K H' x v → Q v H'
def ClT (K : Fr8) (H : Hp) (Q0 : Bool → Sto → Prop) (Q : Bool → Hp → Prop) : Prop := ∀ x S' H', Q0 x S' → TExt K H H' → RepS K S' H' → Q x H'
def ClA (K : Fr8) (H : Hp) (Q0 : List PV → Sto → Prop) (Q : List V → Hp → Prop) : Prop := ∀ xs S' H' vs, Q0 xs S' → TExt K H H' → RepS K S' H' → RepVs K H' xs vs → Q vs H'
def ClN (K : Fr8) (H : Hp) (Q0 : Nv → Sto → Prop) (Q : L2.St → Hp → Prop) : Prop := ∀ ρ S' H' σ, Q0 ρ S' → TExt K H H' → RepS K S' H' → RepE K H' ρ σ → Q σ H'
structure ClD (K : Fr8) (H : Hp) (D0 : PEnds) (D : Ends) : Prop where
  nx : ClN K H D0.nx D.nx
  rt : ClE K H D0.rt D.rt
  bk : ClN K H D0.bk D.bk
  ct : ClN K H D0.ct D.ct
theorem ClE.mono {K : Fr8} {H H1 : Hp} {Q0 : PK1} {Q : VK} (c : ClE K H Q0 Q) (t : TExt K H H1) : ClE K H1 Q0 Q := fun x S' H' v a b d e => c x S' H' v a (t.trans b) d e
theorem ClT.mono {K : Fr8} {H H1 : Hp} {Q0 : Bool → Sto → Prop} {Q : Bool → Hp → Prop} (c : ClT K H Q0 Q) (t : TExt K H H1) : ClT K H1 Q0 Q := fun x S' H' a b d => c x S' H' a (t.trans b) d
theorem ClA.mono {K : Fr8} {H H1 : Hp} {Q0 : List PV → Sto → Prop} {Q : List V → Hp → Prop} (c : ClA K H Q0 Q) (t : TExt K H H1) : ClA K H1 Q0 Q := fun x S' H' v a b d e => c x S' H' v a (t.trans b) d e
theorem ClN.mono {K : Fr8} {H H1 : Hp} {Q0 : Nv → Sto → Prop} {Q : L2.St → Hp → Prop} (c : ClN K H Q0 Q) (t : TExt K H H1) : ClN K H1 Q0 Q := fun x S' H' v a b d e => c x S' H' v a (t.trans b) d e
theorem ClD.mono {K : Fr8} {H H1 : Hp} {D0 : PEnds} {D : Ends} (c : ClD K H D0 D) (t : TExt K H H1) : ClD K H1 D0 D := ⟨c.nx.mono t, c.rt.mono t, c.bk.mono t, c.ct.mono t⟩

def liE (K : Fr8) (t : PTE) : TE := fun σ H Q => ∃ ρ S Q0, RepE K H ρ σ ∧ RepS K S H ∧ t ρ S Q0 ∧ ClE K H Q0 Q
def liT (K : Fr8) (t : PTT) : TT := fun σ H Q => ∃ ρ S Q0, RepE K H ρ σ ∧ RepS K S H ∧ t ρ S Q0 ∧ ClT K H Q0 Q
def liA (K : Fr8) (t : PTA) : TA := fun σ H Q => ∃ ρ S Q0, RepE K H ρ σ ∧ RepS K S H ∧ t ρ S Q0 ∧ ClA K H Q0 Q
def liS (K : Fr8) (t : PTS) : TS := fun D σ H => ∃ ρ S D0, RepE K H ρ σ ∧ RepS K S H ∧ t D0 ρ S ∧ ClD K H D0 D
abbrev LE (X : Cx) (e : Expr) (t : PTE) : Prop := PE X e (liE X.K t)
abbrev LT (X : Cx) (e : Expr) (t : PTT) : Prop := PT X e (liT X.K t)
abbrev LW (X : Cx) (e : Expr) (t : PTT) : Prop := PW X e (liT X.K t)
abbrev LA (X : Cx) (es : List Expr) (t : PTA) : Prop := PA X es (liA X.K t)
abbrev LS (X : Cx) (s : Stmt) (t : PTS) : Prop := PS X s (liS X.K t)
abbrev LSs (X : Cx) (s : List Stmt) (t : PTS) : Prop := PSs X s (liS X.K t)
section
variable {X : Cx}
theorem peW {e : Expr} {t t' : TE} (h : PE X e t) (w : ∀ σ H Q, t' σ H Q → t σ H Q) : PE X e t' := ⟨fun pins s σ H Q I q => h.run pins s σ H Q I (w _ _ _ q)⟩
theorem ptW {e : Expr} {t t' : TT} (h : PT X e t) (w : ∀ σ H Q, t' σ H Q → t σ H Q) : PT X e t' := ⟨fun pins s σ H Q I q => h.run pins s σ H Q I (w _ _ _ q)⟩
theorem pwW {e : Expr} {t t' : TT} (h : PW X e t) (w : ∀ σ H Q, t' σ H Q → t σ H Q) : PW X e t' := ⟨fun wh pins s σ H Q I q => h.run wh pins s σ H Q I (w _ _ _ q)⟩
theorem paW {e : List Expr} {t t' : TA} (h : PA X e t) (w : ∀ σ H Q, t' σ H Q → t σ H Q) : PA X e t' := ⟨fun pos pins s σ H Q I q => h.run pos pins s σ H Q I (w _ _ _ q)⟩
theorem psW {e : Stmt} {t t' : TS} (h : PS X e t) (w : ∀ D σ H, t' D σ H → t D σ H) : PS X e t' := ⟨fun pins s σ H D I q => h.run pins s σ H D I (w _ _ _ q)⟩
theorem pssW {e : List Stmt} {t t' : TS} (h : PSs X e t) (w : ∀ D σ H, t' D σ H → t D σ H) : PSs X e t' := ⟨fun pins s σ H D I q => h.run pins s σ H D I (w _ _ _ q)⟩
/-- what comes out may be frozen -/
def lckQ (Q : VK) : VK := fun v H1 => Q v H1 ∨ ∃ a u, v = .ref a ∧ H1 a = some u ∧ Mut (some u) ∧ ∀ od, Q v (upd H1 a (.frz od u))
theorem pe_lck {e : Expr} {t : TE} (h : PE X e t) : PE X e (fun σ H Q => t σ H (lckQ Q)) := by
  refine ⟨fun pins s σ H Q I hw => ?_⟩
  refine thn (h.run pins s σ H _ I hw) fun v s1 ⟨x, H1, I1, r, q⟩ => ?_
  rcases q with q | ⟨a, u, rfl, e1, mu, q⟩
  · exact ⟨x, H1, I1, r, q⟩
  · obtain ⟨od, I2⟩ := I1.lock e1 mu
    exact ⟨_, _, I2, r, q od⟩
theorem Inv.lock2 {pins : List (Addr × Obj)} {σ : L2.St} {H : Hp} {s : Shared} {d : Addr} {vs : List V} (I : Inv X pins σ H s) (h : H d = some (.lst vs)) : ∃ od, Inv X pins σ (upd H d (lkd od vs)) s := by
  have x := I.hok d _ h
  obtain ⟨_, _, _, _, e⟩ := id x
  refine ⟨_, I.write (x := d) (e := d) (t' := s.toks) (h' := s.heap) (by rw [h]; trivial) (.inl rfl) (fun b v _ q => q) ⟨_, e⟩ ⟨e, e, x.stay (fun b v _ q => q) (fun b q => ?_) fun b xs q => ?_⟩⟩
  · rw [upd_ne (fun z => by rw [z, h] at q; cases q)]; exact q
  · rw [upd_ne (fun z => by rw [z, h] at q; cases q)]; exact q
theorem Inv.unlock2 {pins : List (Addr × Obj)} {σ : L2.St} {H : Hp} {s : Shared} {d : Addr} {od : Obj} {vs : List V} (I : Inv X pins σ H s) (h : H d = some (lkd od vs)) (hn : ∀ o' u', X.H_0 d ≠ some (.frz o' u')) : Inv X pins σ (upd H d (.lst vs)) s := by
  have I1 := I.unlock h hn
  have I2 := I1.unlock upd_same hn
  rwa [upd_upd] at I2
def lkT (t : TT) : TT := fun σ H Q => ∃ d vs, H d = some (.lst vs) ∧ ∀ od, t σ (upd H d (lkd od vs)) fun b H' => H' d = some (lkd od vs) ∧ Q b (upd H' d (.lst vs))
def lkE (t : TE) : TE := fun σ H Q => ∃ d vs, H d = some (.lst vs) ∧ ∀ od, t σ (upd H d (lkd od vs)) fun v H' => H' d = some (lkd od vs) ∧ Q v (upd H' d (.lst vs))
theorem pe_lk {e : Expr} {t : TE} (h : PE X e t) : PE X e (lkE t) := by
  refine ⟨fun pins s σ H Q I hw => ?_⟩
  obtain ⟨d, vs, hd, hw⟩ := hw
  obtain ⟨od, I1⟩ := Inv.lock2 I hd
  refine thn (h.run pins s σ _ _ I1 (hw od)) fun v s1 ⟨x, H1, I2, r, e2, q⟩ => ?_
  exact ⟨x, _, Inv.unlock2 I2 e2 (I.nofrz hd trivial), r, q⟩
theorem pts_lk {es : List Expr} {t : TT} (h : PTs X es t) : PTs X es (lkT t) := by
  refine ⟨fun pins s σ H Q I hw => ?_⟩
  obtain ⟨d, vs, hd, hw⟩ := hw
  obtain ⟨od, I1⟩ := Inv.lock2 I hd
  refine thn (h.run pins s σ _ _ I1 (hw od)) fun v s1 ⟨H1, I2, e2, q⟩ => ?_
  exact ⟨_, Inv.unlock2 I2 e2 (I.nofrz hd trivial), q⟩
/-- .. behind a statement -/
theorem ps_lck {st : Stmt} {t : TS} (h : PS X st t) : PS X st (fun D σ H => t { D with nx := fun σ1 H1 => D.nx σ1 H1 ∨ ∃ a u, H1 a = some u ∧ Mut (some u) ∧ ∀ od, D.nx σ1 (upd H1 a (.frz od u)) } σ H) := by
  refine ⟨fun pins s σ H D I hw => ?_⟩
  refine thn (h.run pins s σ H _ I hw) fun f s1 q => ?_
  cases f with
  | next =>
    obtain ⟨σ', H', I2, q⟩ := q
    rcases q with q | ⟨a, u, e1, mu, q⟩
    · exact ⟨σ', H', I2, q⟩
    · obtain ⟨od, I3⟩ := I2.lock e1 mu
      exact ⟨σ', _, I3, q od⟩
  | brk => exact q
  | cont => exact q
  | ret v => exact q
theorem peFalse {e : Expr} : PE X e (fun _ _ _ => False) := ⟨fun _ _ _ _ _ _ h => h.elim⟩
end
end PL

set_option Elab.async false
set_option linter.all false
set_option maxRecDepth 100000
set_option maxHeartbeats 4000000
/-! The small language, what it means (by the pure readings), and its checker against the program's own trees. -/
namespace PL
open PySem PySem.Spec L2

inductive Ty where | int | bool | str | tuple | list | dict
  deriving DecidableEq
/-- built-in functions of one or two arguments, by value -/
inductive Bf where | len | abs | max1 | min1 | max2 | min2 | sum | all | any | sorted | tuple | list | int
  deriving DecidableEq
inductive Mt where | append | extend | pop | popAt
  deriving DecidableEq
/-- targets -/
inductive G where | nm (i : Nat) | tup (is : List Nat)
mutual
inductive E where
  | var (i : Nat) | con (j : Nat) | lit (v : PV)
  | bin (op : Operator) (a b : E) | neg (a : E)
  | cmp (op : CmpOp) (a b : E) | chn (op op' : CmpOp) (a b c : E)
  | not (a : E) | bop (op : BoolOp) (es : Es) | ite (c a b : E)
  | tup (es : Es) | lst (es : Es) | dicK | dicT
  | call (j : Nat) (es : Es) | blt (f : Bf) (es : Es) | isi (a : E) (t : Ty)
  | idx (a i : E) | sl (a : E) (lo hi : Es) | revL (a : E)
  | mth (m : Mt) (o : E) (es : Es)
  | lc (vs : List Nat) (g : G) (it : I) (c : Es) (elt : E)
  | lcc (vs vs1 : List Nat) (g : G) (it : I) (c : Es) (g1 : G) (it1 : I) (c1 : Es) (elt : E)
  | lrg (es : Es) | trg (es : Es)
  | dget (o k d : E) | disp (es : Es)
  | frz (a : E) | gc (a : E) | lstF (es : Es) | lcF (vs : List Nat) (g : G) (it : I) (c : Es) (elt : E)
  | slF (a : E) (lo hi : Es) | sset (a : E) | dct (a : E) | dctF (a : E) | lccF (vs vs1 : List Nat) (g : G) (it : I) (c : Es) (g1 : G) (it1 : I) (c1 : Es) (elt : E) | lrgF (es : Es) | bltF (f : Bf) (es : Es)
inductive Es where
  | nil | cons (e : E) (es : Es)
inductive I where
  | seq (e : E) | rng (es : Es) | enum (e : E) | zip (a b : E)
end
inductive Sm where
  | set (i : Nat) (e : E) | tup (is : List Nat) (e : E) | par (i j : Nat) (a b : E) | par3 (i j l : Nat) (a b c : E)
  | put (o i e : E) | exp (e : E) | ret (e : E) | retN
  | ite (c : E) (a b : List Sm) | fo (g : G) (it : I) (b : List Sm) | wh (c : E) (b : List Sm)
  | brk | cont | pass | never

abbrev PR2 := PV → PV → Sto → PK1 → Prop
/-- a contract: arguments, store, what follows -/
abbrev Con := List PV → Sto → PK1 → Prop

/-! ### operators -/
def intP (C : Int → Int → Prop) (f : Int → Int → PV) : PR2 := fun x y S Q =>
  match x, y with
  | .int i, .int j => C i j ∧ Q (f i j) S
  | _, _ => False
def addP : PR2 := fun x y S Q =>
  match x, y with
  | .int i, .int j => Q (.int (i + j)) S
  | .str a, .str b => a.length + b.length ≤ sizeLine ∧ Q (.str (a ++ b)) S
  | .tup xs, .tup ys => xs.length + ys.length ≤ sizeLine ∧ Q (.tup (xs ++ ys)) S
  | .rol xs, .rol ys => xs.length + ys.length ≤ sizeLine ∧ Q (.rol (xs ++ ys)) S
  | .ref a, .rol ys => match S a with
    | some (.lst xs) => xs.length + ys.length ≤ sizeLine ∧ Q (.rol (xs ++ ys)) S
    | _ => False
  | .rol xs, .ref b => match S b with
    | some (.lst ys) => xs.length + ys.length ≤ sizeLine ∧ Q (.rol (xs ++ ys)) S
    | _ => False
  | .ref a, .ref b => match S a, S b with
    | some (.lst xs), some (.lst ys) => xs.length + ys.length ≤ sizeLine ∧ ∀ p, S p = none → Q (.ref p) (updS S p (.lst (xs ++ ys)))
    | _, _ => False
  | _, _ => False
def mulP : PR2 := fun x y S Q =>
  match x, y with
  | .int i, .int j => (CMul i j ∨ CMulW i j) ∧ Q (.int (i * j)) S
  | .tup xs, .int k => (xs ≠ [] ∧ 2 ≤ k ∧ k ≤ 1000 ∧ xs.length ≤ 1000) ∧ Q (.tup (List.replicate k.toNat xs).flatten) S
  | .ref a, .int k => match S a with
    | some (.lst xs) => (-(2 ^ 63) ≤ k ∧ k < 2 ^ 63 ∧ xs.length * k.toNat ≤ sizeLine) ∧ ∀ p, S p = none → Q (.ref p) (updS S p (.lst (List.replicate k.toNat xs).flatten))
    | _ => False
  | _, _ => False
@[simp] def binP (op : Operator) : PR2 :=
  match op with
  | .Add => addP
  | .Sub => intP (fun _ _ => True) fun i j => .int (i - j)
  | .Mult => mulP
  | .FloorDiv => intP (fun _ j => 0 < j ∧ j.natAbs.log2 < 9000) fun i j => .int (i / j)
  | .Mod => intP (fun _ j => 0 < j) fun i j => .int (i % j)
  | .Pow => intP CPow fun i j => .int (i ^ j.toNat)
  | .LShift => intP CPow fun i j => .int (i * 2 ^ j.toNat)
  | .RShift => intP (fun _ j => 0 ≤ j) fun i j => .int (i / 2 ^ j.toNat)
  | .BitAnd => intP (fun _ _ => True) fun i j => .int (Builtin.bitAnd i j)
  | .BitOr => intP (fun _ _ => True) fun i j => .int (Builtin.bitOr i j)
  | .BitXor => intP (fun _ _ => True) fun i j => .int (Builtin.bitXor i j)
  | _ => fun _ _ _ _ => False

/-! ### data -/
def allSome {α : Type} : List (Option α) → Option (List α)
  | [] => some []
  | none :: _ => none
  | some a :: r => (allSome r).map (a :: ·)
def datF : Nat → Sto → PV → Option PyData
  | 0, _, _ => none
  | n + 1, S, x => match x with
    | .non => some .none
    | .bl b => some (.bool b)
    | .int i => some (.int i)
    | .str x => if PyData.strOk x then some (.str x) else none
    | .tup xs => (allSome (xs.map (datF n S))).map .tuple
    | .ref a => match S a with
      | some (.lst xs) => (allSome (xs.map (datF n S))).map .list
      | _ => none
    | .rol xs => (allSome (xs.map (datF n S))).map .list
    | .dic _ => none
abbrev dat (S : Sto) (x : PV) : Option PyData := datF 7 S x
def eqP (neg : Bool) : PR2 := fun x y S Q =>
  match dat S x, dat S y with
  | some d, some e => Q (.bl (neg ^^ PyData.eqv d e)) S
  | _, _ => False
def ordP (f : Int → Int → Bool) : PR2 := fun x y S Q =>
  match x, y with
  | .int i, .int j => Q (.bl (f i j)) S
  | _, _ => False
def keyOf : PV → Option Key
  | .int i => some (.inl i)
  | .str x => some (.inr x)
  | _ => none
def keysOf : PV → Option (List Key)
  | .tup xs => allSome (xs.map keyOf)
  | _ => none
@[simp] def pvK : Key → PV
  | .inl i => .int i
  | .inr x => .str x
def valP {κ : Type} [DecidableEq κ] (kvs : List (κ × PV)) (k : κ) : Option PV := (kvs.find? fun kv => decide (kv.1 = k)).map (·.2)
def putP {κ : Type} [DecidableEq κ] (kvs : List (κ × PV)) (k : κ) (v : PV) : List (κ × PV) :=
  if (kvs.any fun kv => decide (kv.1 = k)) = true then kvs.map (fun kv => if kv.1 = k then (kv.1, v) else kv) else kvs ++ [(k, v)]
/-- what a dict of the store holds at a key -/
def dgetP (o : PO) (y : PV) : Option (Option PV) :=
  match o with
  | .dK kvs => (keyOf y).map (valP kvs)
  | _ => none
def inP (neg : Bool) : PR2 := fun x y S Q =>
  match y with
  | .tup ys => match dat S x, dat S (.tup ys) with
    | some d, some (.tuple ds) => Q (.bl (neg ^^ ds.any fun z => PyData.eqv z d)) S
    | _, _ => False
  | .ref a => match S a with
    | some (.dK kvs) => match dgetP (.dK kvs) x with
      | some o => Q (.bl (neg ^^ o.isSome)) S
      | none => False
    | _ => match dat S x, dat S (.ref a) with
      | some d, some (.list ds) => Q (.bl (neg ^^ ds.any fun z => PyData.eqv z d)) S
      | _, _ => False
  | .rol ys => match dat S x, dat S (.rol ys) with
    | some d, some (.list ds) => Q (.bl (neg ^^ ds.any fun z => PyData.eqv z d)) S
    | _, _ => False
  | .dic kvs => match keyOf x with
    | some k => Q (.bl (neg ^^ (valP kvs k).isSome)) S
    | none => False
  | _ => False
def isP (neg : Bool) : PR2 := fun x y S Q =>
  match y, x with
  | .non, .non => Q (.bl (neg ^^ true)) S
  | .non, _ => Q (.bl (neg ^^ false)) S
  | .bl b, .bl a => Q (.bl (neg ^^ decide (a = b))) S
  | _, _ => False
@[simp] def cmpP (op : CmpOp) : PR2 :=
  match op with
  | .Eq => eqP false
  | .NotEq => eqP true
  | .Lt => ordP fun i j => decide (i < j)
  | .LtE => ordP fun i j => decide (i ≤ j)
  | .Gt => ordP fun i j => decide (j < i)
  | .GtE => ordP fun i j => decide (j ≤ i)
  | .In => inP false
  | .NotIn => inP true
  | .Is => isP false
  | .IsNot => isP true
/-- truth -/
def truP : PV → Sto → Option Bool
  | .non, _ => some false
  | .bl b, _ => some b
  | .int i, _ => some (i != 0)
  | .str _, _ => none
  | .tup xs, _ => some (!xs.isEmpty)
  | .rol xs, _ => some (!xs.isEmpty)
  | .dic _, _ => none
  | .ref a, S => match S a with
    | some (.lst xs) => some (!xs.isEmpty)
    | some (.dK kvs) => some (!kvs.isEmpty)
    | _ => none
def truQ (Q : Bool → Sto → Prop) : PK1 := fun x S => match truP x S with
  | some k => Q k S
  | none => False
def tyOf : PV → Sto → Option String
  | .non, _ => some "NoneType"
  | .bl _, _ => some "bool"
  | .int _, _ => some "int"
  | .str _, _ => some "str"
  | .tup _, _ => some "tuple"
  | .rol _, _ => some "list"
  | .dic _, _ => none
  | .ref a, S => match S a with
    | some (.lst _) => some "list"
    | some (.dK _) => some "dict"
    | some (.dT _) => some "dict"
    | _ => none
@[simp] def Ty.name : Ty → String
  | .int => "int" | .bool => "bool" | .str => "str" | .tuple => "tuple" | .list => "list" | .dict => "dict"
/-- isinstance: bool is an int -/
@[simp] def isTy (t : String) (T : Ty) : Bool := t == T.name || (t == "bool" && T == .int)
def isiP (T : Ty) (x : PV) (S : Sto) (Q : PK1) : Prop := match tyOf x S with
  | some t => Q (.bl (isTy t T)) S
  | none => False
/-- items of a list or a tuple -/
def itemsP (x : PV) (S : Sto) : Option (List PV) := match x with
  | .tup xs => some xs
  | .rol xs => some xs
  | .ref a => match S a with
    | some (.lst xs) => some xs
    | _ => none
  | _ => none
def intsP : List PV → Option (List Int)
  | [] => some []
  | .int i :: r => (intsP r).map (i :: ·)
  | _ :: _ => none
def blsP : List PV → Option (List Bool)
  | [] => some []
  | .bl b :: r => (blsP r).map (b :: ·)
  | _ :: _ => none
/-- a list's items alone -/
def listP (x : PV) (S : Sto) : Option (List PV) := match x with
  | .rol xs => some xs
  | .ref a => match S a with
    | some (.lst xs) => some xs
    | _ => none
  | _ => none
def keyInts : List Key → Option (List Int)
  | [] => some []
  | .inl i :: r => (keyInts r).map (i :: ·)
  | _ :: _ => none
def sortQ (ns : List Int) (S : Sto) (Q : PK1) : Prop := ∀ ns' : List Int, ns'.Perm ns → ns'.Pairwise (· ≤ ·) → ∀ p, S p = none → Q (.ref p) (updS S p (.lst (ns'.map .int)))
/-- ascending -/
def insS (n : Int) : List Int → List Int
  | [] => [n]
  | m :: r => if n ≤ m then n :: m :: r else m :: insS n r
def isort (l : List Int) : List Int := l.foldr insS []
def bltP (f : Bf) (xs : List PV) (S : Sto) (Q : PK1) : Prop :=
  match f, xs with
  | .len, [.str z] => z.length ≤ sizeLine ∧ Q (.int z.length) S
  | .len, [x] => match itemsP x S with
    | some ys => Q (.int ys.length) S
    | none => match x with
      | .ref a => match S a with
        | some (.dK kvs) => Q (.int kvs.length) S
        | _ => False
      | _ => False
  | .abs, [.int i] => Q (.int i.natAbs) S
  | .max2, [.int i, .int j] => Q (.int (max i j)) S
  | .min2, [.int i, .int j] => Q (.int (min i j)) S
  | .max1, [x] => match (listP x S).bind intsP with
    | some (n :: ns) => ∀ m, m ∈ n :: ns → (∀ y, y ∈ n :: ns → y ≤ m) → Q (.int m) S
    | _ => False
  | .min1, [x] => match (listP x S).bind intsP with
    | some (n :: ns) => ∀ m, m ∈ n :: ns → (∀ y, y ∈ n :: ns → m ≤ y) → Q (.int m) S
    | _ => False
  | .sum, [x] => match (listP x S).bind intsP with
    | some ns => Q (.int ns.sum) S
    | none => False
  | .all, [x] => match (listP x S).bind blsP with
    | some bs => Q (.bl (bs.all id)) S
    | none => False
  | .any, [x] => match (listP x S).bind blsP with
    | some bs => Q (.bl (bs.any id)) S
    | none => False
  | .sorted, [x] => match listP x S with
    | some xs => match intsP xs with
      | some ns => sortQ ns S Q
      | none => False
    | none => match x with
      | .ref a => match S a with
        | some (.dK kvs) => match keyInts (kvs.map (·.1)) with
          | some ks => ks.length < 64 ∧ sortQ ks S Q
          | none => False
        | _ => False
      | _ => False
  | .tuple, [x] => match itemsP x S with
    | some ys => Q (.tup ys) S
    | none => False
  | .list, [x] => match itemsP x S with
    | some ys => ∀ p, S p = none → Q (.ref p) (updS S p (.lst ys))
    | none => False
  | .int, [.int i] => Q (.int i) S
  | .int, [.bl b] => Q (.int (if b then 1 else 0)) S
  | _, _ => False
def idxP : PR2 := fun x y S Q =>
  match x, y with
  | .tup xs, .int i => match atI xs i with
    | some v => Q v S
    | none => False
  | .rol xs, .int i => match atI xs i with
    | some v => Q v S
    | none => False
  | .dic kvs, y => match (keyOf y).bind (valP kvs) with
    | some v => Q v S
    | none => False
  | .str z, .int i => z.length ≤ sizeLine ∧ match atI z.cps.toList i with
    | some c => Q (.str ⟨#[c]⟩) S
    | none => False
  | .ref a, y => match S a with
    | some (.lst xs) => match y with
      | .int i => match atI xs i with
        | some v => Q v S
        | none => False
      | _ => False
    | some o => match dgetP o y with
      | some (some v) => Q v S
      | _ => False
    | none => False
  | _, _ => False
def cutP (xs : List PV) (lo hi : Option Int) : List PV := (xs.drop (HT.sIx xs.length 0 lo)).take (HT.sIx xs.length xs.length hi - HT.sIx xs.length 0 lo)
def slP (x : PV) (lo hi : Option Int) (S : Sto) (Q : PK1) : Prop :=
  match x with
  | .tup xs => Q (.tup (cutP xs lo hi)) S
  | .rol xs => Q (.rol (cutP xs lo hi)) S
  | .ref a => match S a with
    | some (.lst xs) => ∀ p, S p = none → Q (.ref p) (updS S p (.lst (cutP xs lo hi)))
    | _ => False
  | _ => False
/-- .. what comes out is frozen -/
def slFP (x : PV) (lo hi : Option Int) (S : Sto) (Q : PK1) : Prop :=
  match listP x S with
  | some xs => Q (.rol (cutP xs lo hi)) S
  | none => False
def pairUp : List PV → Option (List (Key × PV))
  | [] => some []
  | x :: y :: r => match keyOf x, pairUp r with
    | some k, some l => some ((k, y) :: l)
    | _, _ => none
  | [_] => none
def mergeP (l : List (Key × PV)) : List (Key × PV) := l.foldl (fun acc kv => putP acc kv.1 kv.2) []
def isDP (x : PV) (S : Sto) : Prop := (∃ a kvs, x = .ref a ∧ S a = some (.dK kvs)) ∨ ∃ kvs, x = .dic kvs
/-- d.get(k, z) -/
def getdP (x y z : PV) (S : Sto) (Q : PK1) : Prop :=
  match x with
  | .ref a => match S a with
    | some (.dK kvs) => match keyOf y with
      | some k => Q ((valP kvs k).getD z) S
      | none => False
    | _ => False
  | .dic kvs => match keyOf y with
    | some k => Q ((valP kvs k).getD z) S
    | none => False
  | _ => False
/-- x[::-1] -/
def revP (x : PV) (S : Sto) (Q : PK1) : Prop :=
  match x with
  | .tup xs => Q (.tup xs.reverse) S
  | .rol xs => Q (.rol xs.reverse) S
  | _ => match listP x S with
    | some xs => ∀ p, S p = none → Q (.ref p) (updS S p (.lst xs.reverse))
    | none => False
/-- frozen: a list that is not changed from here on -/
def frzP (x : PV) (S : Sto) (Q : PK1) : Prop :=
  match x with
  | .ref a => match S a with
    | some (.lst xs) => Q (.rol xs) (dropS S a)
    | some (.dK kvs) => Q (.dic kvs) (dropS S a)
    | _ => False
  | x => Q x S
/-- the pairs of a list of pairs -/
def prsP : List PV → Option (List (Key × PV))
  | [] => some []
  | .tup [x, y] :: r => match keyOf x, prsP r with
    | some k, some l => some ((k, y) :: l)
    | _, _ => none
  | _ => none
/-- ascending, without duplicates -/
def insI (n : Int) : List Int → List Int
  | [] => [n]
  | m :: r => if n < m then n :: m :: r else if n = m then m :: r else m :: insI n r
def ssort (l : List Int) : List Int := l.foldr insI []
def bltFP (f : Bf) (xs : List PV) (S : Sto) (Q : PK1) : Prop :=
  match f, xs with
  | .list, [x] => match itemsP x S with
    | some ys => Q (.rol ys) S
    | none => False
  | .sorted, [x] => match (listP x S).bind intsP with
    | some ns => Q (.rol ((isort ns).map .int)) S
    | none => match x with
      | .ref a => match S a with
        | some (.dK kvs) => match keyInts (kvs.map (·.1)) with
          | some ks => ks.length < 64 ∧ Q (.rol ((isort ks).map .int)) S
          | none => False
        | _ => False
      | .dic kvs => match keyInts (kvs.map (·.1)) with
        | some ks => ks.length < 64 ∧ Q (.rol ((isort ks).map .int)) S
        | none => False
      | _ => False
  | _, _ => False
def mthP (m : Mt) (o : PV) (xs : List PV) (S : Sto) (Q : PK1) : Prop :=
  match o with
  | .ref a => match S a with
    | some (.lst ys) => match m, xs with
      | .append, [x] => ys.length < sizeLine ∧ Q .non (updS S a (.lst (ys ++ [x])))
      | .extend, [.ref b] => match S b with
        | some (.lst zs) => ys.length + zs.length ≤ sizeLine ∧ Q .non (updS S a (.lst (ys ++ zs)))
        | _ => False
      | .pop, [] => match ys[ys.length - 1]? with
        | some y => Q y (updS S a (.lst ys.dropLast))
        | none => False
      | .popAt, [.int i] => (-(2 ^ 63) ≤ i ∧ i < 2 ^ 63) ∧ match seqIndex? i ys.length with
        | some k => match ys[k]? with
          | some y => Q y (updS S a (.lst (ys.eraseIdx k)))
          | none => False
        | none => False
      | _, _ => False
    | _ => False
  | _ => False
/-- o[i] = v -/
def putQ (o i v : PV) (S : Sto) (Q : Sto → Prop) : Prop :=
  match o with
  | .ref a => match S a with
    | some (.lst xs) => match i with
      | .int k => match ixN xs.length k with
        | some j => Q (updS S a (.lst (xs.set j v)))
        | none => False
      | _ => False
    | some (.dK kvs) => match keyOf i with
      | some k => kvs.length < sizeLine ∧ Q (updS S a (.dK (putP kvs k v)))
      | none => False
    | _ => False
  | _ => False
/-! ### targets, loops -/
@[simp] def setAll (ρ : Nv) : List Nat → List PV → Nv
  | i :: is, x :: xs => setAll (ρ.set i (some x)) is xs
  | _, _ => ρ
def gP (g : G) (x : PV) (ρ : Nv) (S : Sto) (k : Nv → Sto → Prop) : Prop :=
  match g with
  | .nm i => k (ρ.set i (some x)) S
  | .tup is => match x with
    | .tup xs => xs.length = is.length ∧ k (setAll ρ is xs) S
    | _ => False
/-- a comprehension's loop: D the list, acc what it holds -/
def lcP (D : Addr) (Gd : Sto → Prop) (body : PV → Sto → (Option PV → Sto → Prop) → Prop) (Q : Sto → Prop) : List PV → List PV → Sto → Prop
  | [], _, S => Gd S ∧ Q S
  | x :: xs, acc, S => Gd S ∧ body x S fun r S2 => ∃ S3, SubS S3 S2 ∧ match r with
    | none => lcP D Gd body Q xs acc S3
    | some y => S3 D = some (.lst acc) ∧ acc.length < sizeLine ∧ lcP D Gd body Q xs (acc ++ [y]) (updS S3 D (.lst (acc ++ [y])))
/-- a comprehension's loop, its list frozen -/
def lfP (Gd : Sto → Prop) (body : PV → Sto → (Option PV → Sto → Prop) → Prop) (Q : PK1) : List PV → List PV → Sto → Prop
  | [], acc, S => Gd S ∧ Q (.rol acc) S
  | x :: xs, acc, S => Gd S ∧ body x S fun r S2 => match r with
    | none => lfP Gd body Q xs acc S2
    | some y => acc.length < sizeLine ∧ lfP Gd body Q xs (acc ++ [y]) S2
/-- .. with more behind -/
def lf1P (Gd : Sto → Prop) (body : PV → Sto → (Option PV → Sto → Prop) → Prop) (K : List PV → Sto → Prop) : List PV → List PV → Sto → Prop
  | [], acc, S => Gd S ∧ K acc S
  | x :: xs, acc, S => Gd S ∧ body x S fun r S2 => match r with
    | none => lf1P Gd body K xs acc S2
    | some y => acc.length < sizeLine ∧ lf1P Gd body K xs (acc ++ [y]) S2
/-- two clauses -/
def lf2P (Gd : Sto → Prop) (body : PV → List PV → Sto → (List PV → Sto → Prop) → Prop) (Q : PK1) : List PV → List PV → Sto → Prop
  | [], acc, S => Gd S ∧ Q (.rol acc) S
  | x :: xs, acc, S => Gd S ∧ body x acc S fun acc2 S2 => lf2P Gd body Q xs acc2 S2
def foP (Gd : Sto → Prop) (body : PV → Nv → Sto → (Nv → Sto → Prop) → Prop) (Q : Nv → Sto → Prop) : List PV → Nv → Sto → Prop
  | [], ρ, S => Gd S ∧ Q ρ S
  | x :: xs, ρ, S => Gd S ∧ body x ρ S fun ρ2 S2 => ∃ S3, SubS S3 S2 ∧ foP Gd body Q xs ρ2 S3
def whP (test : Nv → Sto → (Bool → Sto → Prop) → Prop) (body : Nv → Sto → (Nv → Sto → Prop) → Prop) (Q : Nv → Sto → Prop) : Nat → Nv → Sto → Prop
  | 0, _, _ => False
  | n + 1, ρ, S => test ρ S fun b S1 => if b = true then body ρ S1 fun ρ2 S2 => ∃ S3, SubS S3 S2 ∧ whP test body Q n ρ2 S3 else Q ρ S1
def rngL (lo hi : Int) : List PV := (List.range (hi - lo).toNat).map fun i => .int (lo + (i : Nat))
def rng3L (a c : Int) (n : Nat) : List PV := (List.range n).map fun i => .int (a + (i : Nat) * c)
abbrev PTI := Nv → Sto → (List PV → (Sto → Prop) → Sto → Prop) → Prop
def enumL (xs : List PV) : List PV := xs.zipIdx.map fun p => .tup [.int (p.2 : Nat), p.1]
def zipL (xs ys : List PV) : List PV := (xs.zip ys).map fun p => .tup [p.1, p.2]
/-- the list at a stays -/
def seqG (x : PV) (S0 : Sto) : Sto → Prop := match x with
  | .ref a => fun S => S a = S0 a
  | _ => fun _ => True

/-! ### the meaning -/
section
variable (κ : Nat → PV) (Γ : Nat → Con)
mutual
@[simp] def wE : E → PTE
  | .var i => fun ρ S Q => match ρ[i]? with
    | some (some x) => Q x S
    | _ => False
  | .con j => fun _ S Q => Q (κ j) S
  | .lit v => fun _ S Q => Q v S
  | .bin op a b => fun ρ S Q => wE a ρ S fun x S1 => wE b ρ S1 fun y S2 => binP op x y S2 Q
  | .neg a => fun ρ S Q => wE a ρ S fun x S1 => match x with
    | .int i => Q (.int (-i)) S1
    | _ => False
  | .cmp op a b => fun ρ S Q => wE a ρ S fun x S1 => wE b ρ S1 fun y S2 => cmpP op x y S2 Q
  | .chn op op' a b c => fun ρ S Q => wE a ρ S fun x S1 => wE b ρ S1 fun y S2 => cmpP op x y S2 fun z S3 => match z with
    | .bl true => wE c ρ S3 fun u S4 => cmpP op' y u S4 fun r S5 => match r with
      | .bl k => Q (.bl k) S5
      | _ => False
    | .bl false => Q (.bl false) S3
    | _ => False
  | .not a => fun ρ S Q => wE a ρ S (truQ fun k S1 => Q (.bl (!k)) S1)
  | .bop op es => wB op es
  | .ite c a b => fun ρ S Q => wE c ρ S (truQ fun k S1 => if k = true then wE a ρ S1 Q else wE b ρ S1 Q)
  | .tup es => fun ρ S Q => wEs es ρ S fun xs S1 => xs.length ≤ sizeLine ∧ Q (.tup xs) S1
  | .lst es => fun ρ S Q => wEs es ρ S fun xs S1 => xs.length ≤ sizeLine ∧ ∀ p, S1 p = none → Q (.ref p) (updS S1 p (.lst xs))
  | .dicK => fun _ S Q => ∀ p, S p = none → Q (.ref p) (updS S p (.dK []))
  | .dicT => fun _ S Q => ∀ p, S p = none → Q (.ref p) (updS S p (.dT []))
  | .call j es => fun ρ S Q => wEs es ρ S fun xs S1 => Γ j xs S1 Q
  | .blt f es => fun ρ S Q => wEs es ρ S fun xs S1 => bltP f xs S1 Q
  | .isi a t => fun ρ S Q => wE a ρ S fun x S1 => isiP t x S1 Q
  | .idx a i => fun ρ S Q => wE a ρ S fun x S1 => wE i ρ S1 fun y S2 => idxP x y S2 Q
  | .sl a lo hi => fun ρ S Q => wE a ρ S fun x S1 => wO lo ρ S1 fun l S2 => wO hi ρ S2 fun h S3 => slP x l h S3 Q
  | .revL a => fun ρ S Q => wE a ρ S fun x S1 => revP x S1 Q
  | .mth m o es => fun ρ S Q => wE o ρ S fun x S1 => (∃ a ys, x = .ref a ∧ S1 a = some (.lst ys)) ∧ wEs es ρ S1 fun xs S2 => mthP m x xs S2 Q
  | .lc vs g it c elt => fun ρ S Q => wI it ρ S fun xs Gd S1 => ∀ D, S1 D = none →
      lcP D Gd (fun x S k => gP g x (wipeP ρ vs) S fun ρ2 S2 => wC c ρ2 S2 fun b S3 => if b = true then wE elt ρ2 S3 fun y S4 => k (some y) S4 else k none S3) (fun S => Q (.ref D) S) xs [] (updS S1 D (.lst []))
  | .lcc vs vs1 g it c g1 it1 c1 elt => fun _ _ _ => False
  | .lrg es => fun ρ S Q => wEs es ρ S fun xs S1 => match xs with
    | [.int n] => RgOk 0 n ∧ ∀ p, S1 p = none → Q (.ref p) (updS S1 p (.lst (rngL 0 n)))
    | [.int m, .int n] => RgOk m n ∧ ∀ p, S1 p = none → Q (.ref p) (updS S1 p (.lst (rngL m n)))
    | _ => False
  | .trg es => fun ρ S Q => wEs es ρ S fun xs S1 => match xs with
    | [.int n] => RgOk 0 n ∧ Q (.tup (rngL 0 n)) S1
    | [.int m, .int n] => RgOk m n ∧ Q (.tup (rngL m n)) S1
    | _ => False
  | .dget o k d => fun ρ S Q => wE o ρ S fun x S1 => isDP x S1 ∧ wE k ρ S1 fun y S2 => wE d ρ S2 fun z S3 => getdP x y z S3 Q
  | .disp es => fun ρ S Q => ∀ p, S p = none → wEs es ρ (updS S p (.dK [])) fun xs S2 => S2 p = some (.dK []) ∧ match pairUp xs with
    | some kvs => kvs.length ≤ 15 ∧ Q (.ref p) (updS S2 p (.dK (mergeP kvs)))
    | none => False
  | .frz a => fun ρ S Q => wE a ρ S fun x S1 => frzP x S1 Q
  | .gc a => fun ρ S Q => wE a ρ S fun x S1 => ∃ S2, SubS S2 S1 ∧ Q x S2
  | .lstF es => fun ρ S Q => wEs es ρ S fun xs S1 => xs.length ≤ sizeLine ∧ Q (.rol xs) S1
  | .lcF vs g it c elt => fun ρ S Q => wI it ρ S fun xs Gd S1 =>
      lfP Gd (fun x S k => gP g x (wipeP ρ vs) S fun ρ2 S2 => wC c ρ2 S2 fun b S3 => if b = true then wE elt ρ2 S3 fun y S4 => k (some y) S4 else k none S3) Q xs [] S1
  | .slF a lo hi => fun ρ S Q => wE a ρ S fun x S1 => wO lo ρ S1 fun l S2 => wO hi ρ S2 fun h S3 => slFP x l h S3 Q
  | .sset a => fun ρ S Q => wE a ρ S fun x S1 => match (listP x S1).bind intsP with
    | some ns => (ssort ns).length < 64 ∧ ns.length < 4000 ∧ Q (.rol ((ssort ns).map .int)) S1
    | none => False
  | .dct a => fun ρ S Q => wE a ρ S fun x S1 => match (listP x S1).bind prsP with
    | some kvs => ∀ p, S1 p = none → Q (.ref p) (updS S1 p (.dK (mergeP kvs)))
    | none => False
  | .dctF a => fun ρ S Q => wE a ρ S fun x S1 => match (listP x S1).bind prsP with
    | some kvs => Q (.dic (mergeP kvs)) S1
    | none => False
  | .lccF vs vs1 g it c g1 it1 c1 elt => fun ρ S Q => wI it ρ S fun xs Gd S1 =>
      lf2P Gd (fun x acc S k => gP g x (wipeP ρ vs) S fun ρ2 S2 => wC c ρ2 S2 fun b S3 => if b = true then wI it1 ρ2 S3 fun ys Gd1 S4 =>
          lf1P Gd1 (fun y S k => gP g1 y (wipeP ρ2 vs1) S fun ρ3 S5 => wC c1 ρ3 S5 fun b S6 => if b = true then wE elt ρ3 S6 fun z S7 => k (some z) S7 else k none S6) k ys acc S4
        else k acc S3) Q xs [] S1
  | .lrgF es => fun ρ S Q => wEs es ρ S fun xs S1 => match xs with
    | [.int n] => RgOk 0 n ∧ Q (.rol (rngL 0 n)) S1
    | [.int m, .int n] => RgOk m n ∧ Q (.rol (rngL m n)) S1
    | _ => False
  | .bltF f es => fun ρ S Q => wEs es ρ S fun xs S1 => bltFP f xs S1 Q
@[simp] def wEs : Es → PTA
  | .nil => fun _ S Q => Q [] S
  | .cons e es => fun ρ S Q => wE e ρ S fun x S1 => wEs es ρ S1 fun xs S2 => Q (x :: xs) S2
@[simp] def wB (op : BoolOp) : Es → PTE
  | .nil => fun _ _ _ => False
  | .cons e .nil => wE e
  | .cons e es => fun ρ S Q => wE e ρ S fun x S1 => match truP x S1 with
    | some k => if k = (op == .And) then wB op es ρ S1 Q else Q x S1
    | none => False
/-- a comprehension's test -/
@[simp] def wC : Es → PTT
  | .nil => fun _ S Q => Q true S
  | .cons e _ => fun ρ S Q => wE e ρ S (truQ Q)
/-- a slice's bound -/
@[simp] def wO : Es → Nv → Sto → (Option Int → Sto → Prop) → Prop
  | .nil => fun _ S Q => Q none S
  | .cons e _ => fun ρ S Q => wE e ρ S fun x S1 => match x with
    | .int i => Q (some i) S1
    | _ => False
@[simp] def wI : I → PTI
  | .seq e => fun ρ S R => wE e ρ S fun x S1 => match itemsP x S1 with
    | some xs => R xs (seqG x S1) S1
    | none => match x with
      | .dic kvs => R (kvs.map fun kv => pvK kv.1) (fun _ => True) S1
      | _ => False
  | .rng es => fun ρ S R => wEs es ρ S fun xs S1 => match xs with
    | [.int n] => (-(2 ^ 62) ≤ n ∧ n < 2 ^ 62) ∧ R (rngL 0 n) (fun _ => True) S1
    | [.int m, .int n] => (-(2 ^ 62) ≤ m ∧ m < 2 ^ 62 ∧ -(2 ^ 62) ≤ n ∧ n < 2 ^ 62) ∧ R (rngL m n) (fun _ => True) S1
    | [.int m, .int n, .int c] => ∃ k, RgC m n c k ∧ R (rng3L m c k) (fun _ => True) S1
    | _ => False
  | .enum e => fun ρ S R => wE e ρ S fun x S1 => match listP x S1 with
    | some xs => R (enumL xs) (seqG x S1) S1
    | none => False
  | .zip a b => fun ρ S R => wE a ρ S fun x S1 => wE b ρ S1 fun y S2 => match listP x S2, listP y S2 with
    | some xs, some ys => R (zipL xs ys) (fun S => seqG x S2 S ∧ seqG y S2 S) S2
    | _, _ => match x, y with
      | .tup xs, .tup ys => R (zipL xs ys) (fun _ => True) S2
      | _, _ => False
end
@[simp] abbrev wT (e : E) : PTT := fun ρ S Q => wE κ Γ e ρ S (truQ Q)
mutual
@[simp] def wS : Sm → PTS
  | .set i e => fun D ρ S => wE κ Γ e ρ S fun x S1 => D.nx (ρ.set i (some x)) S1
  | .tup is e => fun D ρ S => wE κ Γ e ρ S fun x S1 => gP (.tup is) x ρ S1 D.nx
  | .par i j a b => fun D ρ S => wE κ Γ a ρ S fun x S1 => wE κ Γ b ρ S1 fun y S2 => D.nx ((ρ.set i (some x)).set j (some y)) S2
  | .par3 i j l a b c => fun D ρ S => wE κ Γ a ρ S fun x S1 => wE κ Γ b ρ S1 fun y S2 => wE κ Γ c ρ S2 fun z S3 => D.nx (((ρ.set i (some x)).set j (some y)).set l (some z)) S3
  | .put o i e => fun D ρ S => wE κ Γ e ρ S fun v S1 => wE κ Γ o ρ S1 fun x S2 => wE κ Γ i ρ S2 fun y S3 => putQ x y v S3 fun S4 => D.nx ρ S4
  | .exp e => fun D ρ S => wE κ Γ e ρ S fun _ S1 => D.nx ρ S1
  | .ret e => fun D ρ S => wE κ Γ e ρ S D.rt
  | .retN => fun D _ S => D.rt .non S
  | .ite c a b => fun D ρ S => wE κ Γ c ρ S (truQ fun k S1 => if k = true then wSs a D ρ S1 else wSs b D ρ S1)
  | .fo g it b => fun D ρ S => wI κ Γ it ρ S fun xs Gd S1 =>
      foP Gd (fun x ρ S k => gP g x ρ S fun ρ2 S2 => wSs b { nx := k, rt := D.rt, bk := D.nx, ct := k } ρ2 S2) D.nx xs ρ S1
  | .wh c b => fun D ρ S => ∃ n, whP (fun ρ S k => wE κ Γ c ρ S (truQ k)) (fun ρ S k => wSs b { nx := k, rt := D.rt, bk := D.nx, ct := k } ρ S) D.nx n ρ S
  | .brk => fun D ρ S => D.bk ρ S
  | .cont => fun D ρ S => D.ct ρ S
  | .pass => fun D ρ S => D.nx ρ S
  | .never => fun _ _ _ => False
@[simp] def wSs : List Sm → PTS
  | [] => fun D ρ S => D.nx ρ S
  | s :: ss => fun D ρ S => wS s { D with nx := fun ρ2 S2 => wSs ss D ρ2 S2 } ρ S
end
end
end PL

set_option Elab.async false
set_option linter.all false
set_option maxRecDepth 100000
set_option maxHeartbeats 4000000
/-! The rules by values. -/
namespace PL
open PySem PySem.Spec L2

def R2Ok (K : Fr8) (r : R2) (p : PR2) : Prop := ∀ H S x' y' x y Q0 Q, RepS K S H → RepV K H x' x → RepV K H y' y → p x' y' S Q0 → ClE K H Q0 Q → r x y H Q
/-- what is given back leaves all as it is -/
theorem ClE.here {K : Fr8} {H : Hp} {Q0 : PK1} {Q : VK} (c : ClE K H Q0 Q) {x : PV} {v : V} {S : Sto} (q : Q0 x S) (s : RepS K S H) (r : RepV K H x v) : Q v H := c x S H v q (TExt.refl K H) s r
theorem ClT.here {K : Fr8} {H : Hp} {Q0 : Bool → Sto → Prop} {Q : Bool → Hp → Prop} (c : ClT K H Q0 Q) {x : Bool} {S : Sto} (q : Q0 x S) (s : RepS K S H) : Q x H := c x S H q (TExt.refl K H) s
/-- a new list -/
theorem ClE.newL {K : Fr8} {H : Hp} {Q0 : PK1} {Q : VK} (c : ClE K H Q0 Q) {xs : List PV} {vs : List V} {S : Sto} {p : Addr} (q : ∀ p, S p = none → Q0 (.ref p) (updS S p (.lst xs))) (s : RepS K S H) (r : RepVs K H xs vs)
    (h : H p = none) : Q (.ref p) (upd H p (.lst vs)) :=
  c (.ref p) _ _ _ (q p (s.free h)) (TExt.new h) (s.new h ⟨vs, upd_same, r.mono (TExt.new h)⟩) (.ref p)
/-- a new tuple -/
theorem ClE.newT {K : Fr8} {H : Hp} {Q0 : PK1} {Q : VK} (c : ClE K H Q0 Q) {xs : List PV} {vs : List V} {S : Sto} {p : Addr} (q : Q0 (.tup xs) S) (s : RepS K S H) (r : RepVs K H xs vs) (h : H p = none) : Q (.ref p) (upd H p (.tup vs)) :=
  c (.tup xs) S _ _ q (TExt.new h) (s.newT h) (.tup (.inl (.inl upd_same)) (r.mono (TExt.new h)))
/-- an address that the heap does not hold is no list of the store, unless it lies in the written part -/
theorem RepS.lst {K : Fr8} {S : Sto} {H : Hp} {a : Addr} {xs : List PV} (s : RepS K S H) (h : S a = some (.lst xs)) : ∃ vs, H a = some (.lst vs) ∧ RepVs K H xs vs := s a _ h
theorem listP_ok {K : Fr8} {S : Sto} {H : Hp} {x' : PV} {x : V} {ys : List PV} (s : RepS K S H) (r : RepV K H x' x) (h : listP x' S = some ys) : ∃ a vs, x = .ref a ∧ SqL K H a vs ∧ RepVs K H ys vs := by
  cases r with
  | ref a =>
    simp only [listP] at h
    split at h
    · rename_i xs e; cases h; obtain ⟨vs, h1, h2⟩ := s.lst e; exact ⟨a, vs, rfl, .inl (.inl h1), h2⟩
    · cases h
  | rol h1 h2 => simp only [listP] at h; cases h; exact ⟨_, _, rfl, h1.sq, h2⟩
  | _ => simp [listP] at h
theorem itemsP_ok {K : Fr8} {S : Sto} {H : Hp} {x' : PV} {x : V} {ys : List PV} (s : RepS K S H) (r : RepV K H x' x) (h : itemsP x' S = some ys) :
    ∃ a vs, x = .ref a ∧ RepVs K H ys vs ∧ ((listP x' S = some ys ∧ SqL K H a vs) ∨ (x' = .tup ys ∧ SqT K H a vs)) := by
  cases r with
  | ref a =>
    simp only [itemsP] at h
    split at h
    · rename_i xs e; cases h; obtain ⟨vs, h1, h2⟩ := s.lst e; exact ⟨a, vs, rfl, h2, .inl ⟨by simp only [listP, e], .inl (.inl h1)⟩⟩
    · cases h
  | rol h1 h2 => simp only [itemsP] at h; cases h; exact ⟨_, _, rfl, h2, .inl ⟨rfl, h1.sq⟩⟩
  | tup h1 h2 => simp only [itemsP] at h; cases h; exact ⟨_, _, rfl, h2, .inr ⟨rfl, h1⟩⟩
  | _ => simp [itemsP] at h
theorem intP_ok {K : Fr8} {C : Int → Int → Prop} {f : Int → Int → PV} {g : Int → Int → V} (hfg : ∀ H i j, RepV K H (f i j) (g i j)) : R2Ok K (rI C g) (intP C f) := by
  intro H S x' y' x y Q0 Q s rx ry h c
  unfold intP at h
  split at h
  · cases rx; cases ry; exact ⟨_, _, rfl, rfl, h.1, c.here h.2 s (hfg _ _ _)⟩
  · exact h.elim
theorem intP_ok0 {K : Fr8} {f : Int → Int → PV} {g : Int → Int → V} (hfg : ∀ H i j, RepV K H (f i j) (g i j)) : R2Ok K (rI0 g) (intP (fun _ _ => True) f) := by
  intro H S x' y' x y Q0 Q s rx ry h c
  unfold intP at h
  split at h
  · cases rx; cases ry; exact ⟨_, _, rfl, rfl, c.here h.2 s (hfg _ _ _)⟩
  · exact h.elim
/-- a new list, frozen -/
theorem ClE.newF {K : Fr8} {H : Hp} {Q0 : PK1} {Q : VK} (c : ClE K H Q0 Q) {xs : List PV} {vs : List V} {S : Sto} {p : Addr} (q : Q0 (.rol xs) S) (s : RepS K S H) (r : RepVs K H xs vs)
    (h : H p = none) : lckQ Q (.ref p) (upd H p (.lst vs)) := by
  refine .inr ⟨p, .lst vs, rfl, upd_same, trivial, fun od => ?_⟩
  have t1 : TExt K H (upd H p (.lst vs)) := TExt.new h
  have t2 : TExt K (upd H p (.lst vs)) (upd (upd H p (.lst vs)) p (.frz od (.lst vs))) := TExt.set upd_same trivial
  refine c (.rol xs) S _ _ q (t1.trans t2) ?_ (.rol (.inl ⟨od, upd_same⟩) (r.mono (t1.trans t2)))
  exact (s.newT h).lk (s.free h) upd_same trivial
/-- a list of the store, frozen -/
theorem ClE.frzL {K : Fr8} {H : Hp} {Q0 : PK1} {Q : VK} (c : ClE K H Q0 Q) {xs : List PV} {S : Sto} {a : Addr} (q : Q0 (.rol xs) (dropS S a)) (s : RepS K S H) (e : S a = some (.lst xs)) : lckQ Q (.ref a) H := by
  obtain ⟨vs, h1, h2⟩ := s.lst e
  refine .inr ⟨a, .lst vs, rfl, h1, trivial, fun od => ?_⟩
  have t2 : TExt K H (upd H a (.frz od (.lst vs))) := TExt.set h1 trivial
  exact c (.rol xs) _ _ _ q t2 (s.frz h1 trivial) (.rol (.inl ⟨od, upd_same⟩) (h2.mono t2))
/-- a dict of the store, frozen -/
theorem ClE.frzD {K : Fr8} {H : Hp} {Q0 : PK1} {Q : VK} (c : ClE K H Q0 Q) {kvs : List (Key × PV)} {S : Sto} {a : Addr} (q : Q0 (.dic kvs) (dropS S a)) (s : RepS K S H) (e : S a = some (.dK kvs)) : lckQ Q (.ref a) H := by
  obtain ⟨ws, h1, h2, h3⟩ := s a _ e
  refine .inr ⟨a, .dK ws, rfl, h1, trivial, fun od => ?_⟩
  have t2 : TExt K H (upd H a (.frz od (.dK ws))) := TExt.set h1 trivial
  exact c (.dic kvs) _ _ _ q t2 (s.frz h1 trivial) (.dic upd_same h2 (h3.mono t2))
/-- a new dict, frozen -/
theorem ClE.newD {K : Fr8} {H : Hp} {Q0 : PK1} {Q : VK} (c : ClE K H Q0 Q) {kvs : List (Key × PV)} {ws : List (Key × V)} {S : Sto} {p : Addr} (q : Q0 (.dic kvs) S) (s : RepS K S H) (e : kvs.map (·.1) = ws.map (·.1)) (r : RepVs K H (kvs.map (·.2)) (ws.map (·.2)))
    (h : H p = none) : lckQ Q (.ref p) (upd H p (.dK ws)) := by
  refine .inr ⟨p, .dK ws, rfl, upd_same, trivial, fun od => ?_⟩
  have t1 : TExt K H (upd H p (.dK ws)) := TExt.new h
  have t2 : TExt K (upd H p (.dK ws)) (upd (upd H p (.dK ws)) p (.frz od (.dK ws))) := TExt.set upd_same trivial
  refine c (.dic kvs) S _ _ q (t1.trans t2) ?_ (.dic upd_same e (r.mono (t1.trans t2)))
  exact (s.newT h).lk (s.free h) upd_same trivial
theorem OpR.lck {X : Cx} {f : Value → Value → Sem Value} {r : R2} (h : OpR X f r) : OpR X f (fun x y H Q => r x y H (lckQ Q)) := by
  intro pins s σ H x y v u Q I rx ry hw
  refine thn (h pins s σ H x y v u _ I rx ry hw) fun v s1 ⟨x, H1, I1, r, q⟩ => ?_
  rcases q with q | ⟨a, u, rfl, e1, mu, q⟩
  · exact ⟨x, H1, I1, r, q⟩
  · obtain ⟨od, I2⟩ := I1.lock e1 mu
    exact ⟨_, _, I2, r, q od⟩
section
variable {X : Cx}
/-- lists that may be frozen -/
def rCatL (K : Fr8) : R2 := fun x y H Q => ∃ l b xs zs, x = .ref l ∧ y = .ref b ∧ SqL K H l xs ∧ SqL K H b zs ∧ xs.length + zs.length ≤ sizeLine ∧ ∀ p, H p = none → Q (.ref p) (upd H p (.lst (xs ++ zs)))
theorem op_catL : OpR X (binaryOp .Add) (rCatL X.K) := by
  intro pins s σ H x y v u Q I rx ry h
  obtain ⟨l, b, xs, zs, rfl, rfl, hH, hB, hz, q⟩ := h
  cases rx
  cases ry
  obtain ⟨its, r, ⟨⟨cls, dd, data, sl⟩, n, ho, hc, _, hd⟩, z⟩ := I.list hH
  obtain ⟨its2, r2, ⟨⟨cls2, dd2, data2, sl2⟩, n2, ho2, hc2, _, hd2⟩, z2⟩ := I.list hB
  simp only at hc hd hc2 hd2
  subst hc hd hc2 hd2
  refine concat_meets ⟨_, ho, rfl⟩ ⟨_, ho2, rfl⟩ noFill_list_add seq_list_add PySem.F.slot_list_add PySem.F.entry_list_add (PySem.F.args_list_add_2 _ _) (PyProof.Rows.list_addW l b its.toArray its2.toArray n n2 dd dd2 sl sl2 (by rw [List.size_toArray, List.size_toArray, ← r.length, ← r2.length]; exact hz)) ⟨ho, ho2, ?_⟩
  have ea : its.toArray ++ its2.toArray = (its ++ its2).toArray := by simp
  rw [ea]
  exact ⟨.ref _, _, I.lnew (t' := s.toks) (r.append r2) (by rw [List.length_append]; omega), rfl, q _ I.fresh⟩
def BinOk (X : Cx) (op : Operator) : Prop := ∃ r, OpR X (binaryOp op) r ∧ R2Ok X.K r (binP op)
theorem add_ok : BinOk X .Add := by
  refine ⟨_, op_add.or (op_add_str.or (op_catA.or (op_cat.or (OpR.lck op_catL)))), ?_⟩
  intro H S x' y' x y Q0 Q s rx ry h c
  simp only [binP, addP] at h
  split at h
  · cases rx; cases ry; exact .inl ⟨_, _, rfl, rfl, c.here h s (.int _)⟩
  · cases rx; cases ry; exact .inr (.inl ⟨_, _, rfl, rfl, h.1, c.here h.2 s (.str _)⟩)
  · rename_i xs ys
    cases rx with
    | @tup _ a vs ha ra =>
    cases ry with
    | @tup _ b ws hb rb =>
    refine .inr (.inr (.inl ⟨a, b, vs, ws, rfl, rfl, ha, hb, by rw [← ra.length, ← rb.length]; exact h.1, fun e => ?_, fun _ e => ?_, fun _ _ p hp => c.newT h.2 s (ra.app rb) hp⟩))
    · subst e; cases ra; exact c.here h.2 s (.tup hb rb)
    · subst e; cases rb; rw [List.append_nil] at h; exact c.here h.2 s (.tup ha ra)
  · rename_i xs ys
    cases rx with
    | @rol _ a vs ha ra =>
    cases ry with
    | @rol _ b ws hb rb =>
    exact .inr (.inr (.inr (.inr ⟨a, b, vs, ws, rfl, rfl, ha.sq, hb.sq, by rw [← ra.length, ← rb.length]; exact h.1, fun p hp => c.newF h.2 s (ra.app rb) hp⟩)))
  · rename_i a ys
    split at h
    · rename_i xs ea
      cases rx
      cases ry with
      | @rol _ b ws hb rb =>
      obtain ⟨vs, h1, h2⟩ := s.lst ea
      exact .inr (.inr (.inr (.inr ⟨a, b, vs, ws, rfl, rfl, .inl (.inl h1), hb.sq, by rw [← h2.length, ← rb.length]; exact h.1, fun p hp => c.newF h.2 s (h2.app rb) hp⟩)))
    · exact h.elim
  · rename_i xs b
    split at h
    · rename_i ys eb
      cases ry
      cases rx with
      | @rol _ a vs ha ra =>
      obtain ⟨ws, h1, h2⟩ := s.lst eb
      exact .inr (.inr (.inr (.inr ⟨a, b, vs, ws, rfl, rfl, ha.sq, .inl (.inl h1), by rw [← ra.length, ← h2.length]; exact h.1, fun p hp => c.newF h.2 s (ra.app h2) hp⟩)))
    · exact h.elim
  · rename_i a b
    cases rx; cases ry
    split at h
    · rename_i xs ys ea eb
      obtain ⟨vs, h1, h2⟩ := s.lst ea
      obtain ⟨ws, h3, h4⟩ := s.lst eb
      exact .inr (.inr (.inr (.inl ⟨a, b, vs, ws, rfl, rfl, h1, h3, by rw [← h2.length, ← h4.length]; exact h.1, fun p hp => c.newL h.2 s (h2.app h4) hp⟩)))
    · exact h.elim
  · exact h.elim
theorem rI_or {K : Fr8} {C C' : Int → Int → Prop} {g : Int → Int → V} : ∀ x y H Q, rI (fun i j => C i j ∨ C' i j) g x y H Q → rI C g x y H Q ∨ rI C' g x y H Q := by
  rintro x y H Q ⟨i, j, e1, e2, c | c, q⟩
  · exact .inl ⟨i, j, e1, e2, c, q⟩
  · exact .inr ⟨i, j, e1, e2, c, q⟩
theorem sub_ok : BinOk X .Sub := ⟨_, op_sub, intP_ok0 fun _ _ _ => .int _⟩
theorem mul_ok : BinOk X .Mult := by
  refine ⟨_, (op_mul.or op_mulW).or (op_repT.or op_rep), ?_⟩
  intro H S x' y' x y Q0 Q s rx ry h c
  simp only [binP, mulP] at h
  split at h
  · cases rx; cases ry
    rcases h.1 with k | k
    · exact .inl (.inl ⟨_, _, rfl, rfl, k, c.here h.2 s (.int _)⟩)
    · exact .inl (.inr ⟨_, _, rfl, rfl, k, c.here h.2 s (.int _)⟩)
  · rename_i xs k
    cases rx with
    | @tup _ a vs ha ra =>
    cases ry
    refine .inr (.inl ⟨a, k, vs, rfl, rfl, ha, fun e => ?_, h.1.2.1, h.1.2.2.1, by rw [← ra.length]; exact h.1.2.2.2, fun p hp => c.newT h.2 s (ra.rep _) hp⟩)
    subst e; cases ra; exact h.1.1 rfl
  · rename_i a k
    cases rx; cases ry
    split at h
    · rename_i xs ea
      obtain ⟨vs, h1, h2⟩ := s.lst ea
      exact .inr (.inr ⟨a, k, vs, rfl, rfl, h1, h.1.1, h.1.2.1, by rw [← h2.length]; exact h.1.2.2, fun p hp => c.newL h.2 s (h2.rep _) hp⟩)
    · exact h.elim
  · exact h.elim
theorem fdiv_ok : BinOk X .FloorDiv := ⟨_, op_fdivW, intP_ok fun _ _ _ => .int _⟩
theorem mod_ok : BinOk X .Mod := ⟨_, op_mod, intP_ok fun _ _ _ => .int _⟩
theorem pow_ok : BinOk X .Pow := ⟨_, op_pow, intP_ok fun _ _ _ => .int _⟩
theorem shl_ok : BinOk X .LShift := ⟨_, op_shl, intP_ok fun _ _ _ => .int _⟩
theorem shr_ok : BinOk X .RShift := ⟨_, op_shr, intP_ok fun _ _ _ => .int _⟩
theorem band_ok : BinOk X .BitAnd := ⟨_, op_and, intP_ok0 fun _ _ _ => .int _⟩
theorem bor_ok : BinOk X .BitOr := ⟨_, op_or, intP_ok0 fun _ _ _ => .int _⟩
theorem bxor_ok : BinOk X .BitXor := ⟨_, op_xor, intP_ok0 fun _ _ _ => .int _⟩
theorem none_ok {op : Operator} (h : binP op = fun _ _ _ _ => False) : BinOk X op := ⟨fun _ _ _ _ => False, fun _ _ _ _ _ _ _ _ _ _ _ _ q => q.elim, fun _ _ _ _ _ _ _ _ _ _ _ q _ => by rw [h] at q; exact q⟩
theorem bin_ok : ∀ op, BinOk X op
  | .Add => add_ok | .Sub => sub_ok | .Mult => mul_ok | .FloorDiv => fdiv_ok | .Mod => mod_ok | .Pow => pow_ok | .LShift => shl_ok | .RShift => shr_ok
  | .BitAnd => band_ok | .BitOr => bor_ok | .BitXor => bxor_ok | .MatMult => none_ok rfl | .Div => none_ok rfl

/-! ### data -/
theorem allSome_nil {α : Type} : allSome ([] : List (Option α)) = some [] := rfl
theorem allSome_cons {α : Type} {a : Option α} {r : List (Option α)} {ys : List α} (h : allSome (a :: r) = some ys) : ∃ y zs, a = some y ∧ allSome r = some zs ∧ ys = y :: zs := by
  cases a with
  | none => simp [allSome] at h
  | some y =>
    simp only [allSome] at h
    cases e : allSome r with
    | none => rw [e] at h; simp at h
    | some zs => rw [e] at h; simp at h; exact ⟨y, zs, rfl, rfl, h.symm⟩
def DOk (n : Nat) (d : PyData) : Prop := PyData.canLay0 d = true ∧ PyData.depth d ≤ n
def DsOk (n : Nat) (d : List PyData) : Prop := PyData.canLayAll0 d = true ∧ PyData.depthAll d ≤ n
theorem datF_ok {K : Fr8} {S : Sto} {H : Hp} (s : RepS K S H) : ∀ (n : Nat) (x : PV) (v : V) (d : PyData), RepV K H x v → datF n S x = some d → Dp K H v d ∧ DOk n d := by
  intro n
  induction n with
  | zero => intro x v d _ h; simp [datF] at h
  | succ n ih =>
    have all : ∀ (xs : List PV) (vs : List V) (ds : List PyData), RepVs K H xs vs → allSome (xs.map (datF n S)) = some ds → DpAll K H vs ds ∧ DsOk n ds := by
      intro xs
      induction xs with
      | nil => intro vs ds r h; cases r; simp [allSome] at h; subst h; exact ⟨.nil, by simp [DsOk, PyData.canLayAll0, PyData.depthAll]⟩
      | cons x xs ihx =>
        intro vs ds r h
        cases r with
        | cons r rs =>
          obtain ⟨y, zs, e1, e2, rfl⟩ := allSome_cons h
          obtain ⟨a1, a2, a3⟩ := ih x _ y r e1
          obtain ⟨b1, b2, b3⟩ := ihx _ zs rs e2
          refine ⟨.cons a1 b1, ?_, ?_⟩
          · simp only [PyData.canLayAll0, a2, b2, Bool.and_self]
          · simp only [PyData.depthAll]; omega
    intro x v d r h
    cases r with
    | non => simp [datF] at h; subst h; exact ⟨.non, by simp [DOk, PyData.canLay0, PyData.depth]⟩
    | bl b => simp [datF] at h; subst h; exact ⟨.bl b, by simp [DOk, PyData.canLay0, PyData.depth]⟩
    | int b => simp [datF] at h; subst h; exact ⟨.int b, by simp [DOk, PyData.canLay0, PyData.depth]⟩
    | str b =>
      simp only [datF] at h
      split at h
      · rename_i hk; cases h; exact ⟨.str b, by simp [DOk, PyData.canLay0, PyData.depth, hk]⟩
      · cases h
    | tup ht rs =>
      simp only [datF] at h
      cases e : allSome (List.map (datF n S) _) with
      | none => rw [e] at h; simp at h
      | some ds =>
        rw [e] at h; simp at h; subst h
        obtain ⟨a, b, c⟩ := all _ _ _ rs e
        exact ⟨.tup ht a, by simp [PyData.canLay0, b], by simp only [PyData.depth]; omega⟩
    | rol ht rs =>
      simp only [datF] at h
      cases e : allSome (List.map (datF n S) _) with
      | none => rw [e] at h; simp at h
      | some ds =>
        rw [e] at h; simp at h; subst h
        obtain ⟨a, b, c⟩ := all _ _ _ rs e
        exact ⟨.lst ht.sq a, by simp [PyData.canLay0, b], by simp only [PyData.depth]; omega⟩
    | dic _ _ _ => simp [datF] at h
    | ref a =>
      simp only [datF] at h
      split at h
      · rename_i xs ea
        obtain ⟨vs, h1, h2⟩ := s.lst ea
        cases e : allSome (List.map (datF n S) xs) with
        | none => rw [e] at h; simp at h
        | some ds =>
          rw [e] at h; simp at h; subst h
          obtain ⟨a', b, c⟩ := all _ _ _ h2 e
          exact ⟨.lst (.inl (.inl h1)) a', by simp [PyData.canLay0, b], by simp only [PyData.depth]; omega⟩
      · cases h
theorem dat_ok {K : Fr8} {S : Sto} {H : Hp} (s : RepS K S H) {x : PV} {v : V} {d : PyData} (r : RepV K H x v) (h : dat S x = some d) : Dp K H v d ∧ SeqAt.shaped d = true := by
  obtain ⟨a, b, c⟩ := datF_ok s 7 x v d r h
  refine ⟨a, ?_⟩
  unfold SeqAt.shaped
  rw [b, Bool.true_and]
  exact decide_eq_true (Nat.le_trans c (by decide))
def CmpOk (X : Cx) (op : CmpOp) : Prop := ∃ r, OpR X (compareOp op) r ∧ R2Ok X.K r (cmpP op)
theorem eq_ok (hu : X.A.units + 65 < cLine) : CmpOk X .Eq := by
  refine ⟨_, op_eqD (by omega), ?_⟩
  intro H S x' y' x y Q0 Q s rx ry h c
  simp only [cmpP, eqP] at h
  split at h
  · rename_i d e hd he
    obtain ⟨a1, a2⟩ := dat_ok s rx hd
    obtain ⟨b1, b2⟩ := dat_ok s ry he
    exact ⟨d, e, a1, b1, a2, b2, c.here h s (by rw [Bool.false_xor]; exact .bl _)⟩
  · exact h.elim
theorem ne_ok (hu : X.A.units + 65 < cLine) : CmpOk X .NotEq := by
  refine ⟨_, op_neD (by omega), ?_⟩
  intro H S x' y' x y Q0 Q s rx ry h c
  simp only [cmpP, eqP] at h
  split at h
  · rename_i d e hd he
    obtain ⟨a1, a2⟩ := dat_ok s rx hd
    obtain ⟨b1, b2⟩ := dat_ok s ry he
    exact ⟨d, e, a1, b1, a2, b2, c.here h s (by rw [Bool.true_xor]; exact .bl _)⟩
  · exact h.elim
theorem ord_ok {K : Fr8} {f : Int → Int → Bool} : R2Ok K (rI0 fun i j => .bl (f i j)) (ordP f) := by
  intro H S x' y' x y Q0 Q s rx ry h c
  unfold ordP at h
  split at h
  · cases rx; cases ry; exact ⟨_, _, rfl, rfl, c.here h s (.bl _)⟩
  · exact h.elim
def rInT (K : Fr8) : R2 := fun x y H Q => ∃ d ds, Dp K H x d ∧ Dp K H y (.tuple ds) ∧ SeqAt.shaped d = true ∧ SeqAt.shaped (.tuple ds) = true ∧ Q (.bl (ds.any fun z => PyData.eqv z d)) H
def rNotInT (K : Fr8) : R2 := fun x y H Q => ∃ d ds, Dp K H x d ∧ Dp K H y (.tuple ds) ∧ SeqAt.shaped d = true ∧ SeqAt.shaped (.tuple ds) = true ∧ Q (.bl (!ds.any fun z => PyData.eqv z d)) H
theorem lay_tup {ds : List PyData} (h : SeqAt.shaped (.tuple ds) = true) : PyData.canLayAll0 ds = true := by
  unfold SeqAt.shaped at h
  rw [Bool.and_eq_true] at h
  simpa [PyData.canLay0] using h.1
theorem op_inT (hu : X.A.units + 65 < cLine) : OpR X (compareOp .In) (rInT X.K) := by
  intro pins s σ H x y v u Q I rx ry h
  obtain ⟨d, ds, hd, he, sd, se, q⟩ := h
  obtain ⟨as, r1⟩ := Dp.reads I d x v hd rx
  obtain ⟨bs, r2⟩ := Dp.reads I (.tuple ds) y u he ry
  exact SeqAt.in_tuple_reads r2 r1 (lay_tup se) (SeqAt.canLay_of_shaped sd) (PyProof.Rows.room_in_shaped sd hu) ⟨.bl _, H, I, rfl, q⟩
theorem op_notInT (hu : X.A.units + 65 < cLine) : OpR X (compareOp .NotIn) (rNotInT X.K) := by
  intro pins s σ H x y v u Q I rx ry h
  obtain ⟨d, ds, hd, he, sd, se, q⟩ := h
  obtain ⟨as, r1⟩ := Dp.reads I d x v hd rx
  obtain ⟨bs, r2⟩ := Dp.reads I (.tuple ds) y u he ry
  exact SeqAt.notIn_tuple_reads r2 r1 (lay_tup se) (SeqAt.canLay_of_shaped sd) (PyProof.Rows.room_in_shaped sd hu) ⟨.bl _, H, I, rfl, q⟩
def rInK : R2 := fun y x H Q => ∃ a o, x = .ref a ∧ DGet H a y o ∧ Q (.bl o.isSome) H
def rNotInK : R2 := fun y x H Q => ∃ a o, x = .ref a ∧ DGet H a y o ∧ Q (.bl (!o.isSome)) H
theorem op_inK (hu : X.A.units + 65 < cLine) : OpR X (compareOp .In) rInK := by
  intro pins s σ H y x iv u Q I ry rx h
  obtain ⟨a, o, rfl, g, q⟩ := h
  obtain rfl : u = Value.ref a := rx
  exact d_in (by omega) I g ry fun s3 I3 => ⟨.bl o.isSome, H, I3, rfl, q⟩
theorem op_notInK (hu : X.A.units + 65 < cLine) : OpR X (compareOp .NotIn) rNotInK := by
  intro pins s σ H y x iv u Q I ry rx h
  obtain ⟨a, o, rfl, g, q⟩ := h
  obtain rfl : u = Value.ref a := rx
  exact d_notIn (by omega) I g ry fun s3 I3 => ⟨.bl (!o.isSome), H, I3, rfl, q⟩
/-- a dict of the store, read -/
theorem valP_ok {K : Fr8} {H : Hp} {κ : Type} [DecidableEq κ] (k : κ) : ∀ (kvs : List (κ × PV)) (ws : List (κ × V)), kvs.map (·.1) = ws.map (·.1) → RepVs K H (kvs.map (·.2)) (ws.map (·.2)) →
    (valP kvs k).isSome = (valV ws k).isSome ∧ ∀ x, valP kvs k = some x → ∃ v, valV ws k = some v ∧ RepV K H x v
  | [], [], _, _ => ⟨rfl, fun x h => by simp [valP] at h⟩
  | [], _ :: _, e, _ => by simp at e
  | _ :: _, [], e, _ => by simp at e
  | (j, x) :: kvs, (j', v) :: ws, e, r => by
    simp only [List.map_cons, List.cons.injEq] at e
    obtain ⟨e1, e2⟩ := e
    subst e1
    cases r with
    | cons r rs =>
      have ih := valP_ok k kvs ws e2 rs
      by_cases h : j = k
      · rw [valV_pos (p := (j, v)) h]
        simp only [valP, List.find?_cons, h, decide_true, Option.map_some, Option.isSome_some]
        exact ⟨trivial, fun y hy => ⟨v, rfl, by cases hy; exact r⟩⟩
      · rw [valV_neg (p := (j, v)) h]
        have : valP ((j, x) :: kvs) k = valP kvs k := by simp [valP, List.find?_cons, h]
        rw [this]
        exact ih
theorem keyOf_ok {K : Fr8} {H : Hp} {x : PV} {v : V} {k : Key} (r : RepV K H x v) (h : keyOf x = some k) : v = kV k := by
  cases r <;> simp [keyOf] at h
  · subst h; rfl
  · subst h; rfl
theorem dget_ok {K : Fr8} {S : Sto} {H : Hp} {a : Addr} {o : PO} {y : PV} {v : V} {z : Option PV} (s : RepS K S H) (ea : S a = some o) (ry : RepV K H y v) (h : dgetP o y = some z) :
    ∃ w, DGet H a v w ∧ w.isSome = z.isSome ∧ ∀ x, z = some x → ∃ u, w = some u ∧ RepV K H x u := by
  cases o with
  | dK kvs =>
    simp only [dgetP, Option.map_eq_some_iff] at h
    obtain ⟨k, h1, h2⟩ := h
    obtain ⟨ws, e, m, rs⟩ := s a _ ea
    obtain ⟨q1, q2⟩ := valP_ok k kvs ws m rs
    rw [keyOf_ok ry h1]
    subst h2
    exact ⟨valV ws k, DGet.k e, q1.symm, q2⟩
  | _ => simp [dgetP] at h
theorem in_ok (hu : X.A.units + 65 < cLine) : CmpOk X .In := by
  refine ⟨_, (op_inT hu).or ((op_inD hu).or (op_inK hu)), ?_⟩
  intro H S x' y' x y Q0 Q s rx ry h c
  simp only [cmpP, inP] at h
  split at h
  · split at h
    · rename_i d ds hd he
      obtain ⟨a1, a2⟩ := dat_ok s rx hd
      obtain ⟨b1, b2⟩ := dat_ok s ry he
      exact .inl ⟨d, ds, a1, b1, a2, b2, c.here h s (by rw [Bool.false_xor]; exact .bl _)⟩
    · exact h.elim
  · rename_i a
    cases ry
    split at h
    · rename_i kvs ea
      split at h
      · rename_i o ho
        obtain ⟨w, g, q, _⟩ := dget_ok s ea rx ho
        exact .inr (.inr ⟨a, w, rfl, g, c.here h s (by rw [Bool.false_xor, q]; exact .bl _)⟩)
      · exact h.elim
    · split at h
      · rename_i d ds hd he
        obtain ⟨a1, a2⟩ := dat_ok s rx hd
        obtain ⟨b1, b2⟩ := dat_ok s (.ref a) he
        exact .inr (.inl ⟨d, ds, a1, b1, a2, b2, c.here h s (by rw [Bool.false_xor]; exact .bl _)⟩)
      · exact h.elim
  · split at h
    · rename_i d ds hd he
      obtain ⟨a1, a2⟩ := dat_ok s rx hd
      obtain ⟨b1, b2⟩ := dat_ok s ry he
      exact .inr (.inl ⟨d, ds, a1, b1, a2, b2, c.here h s (by rw [Bool.false_xor]; exact .bl _)⟩)
    · exact h.elim
  · rename_i kvs
    cases ry with
    | @dic _ a o ws hd e rs =>
    split at h
    · rename_i k hk
      obtain ⟨w1, _⟩ := valP_ok k kvs ws e rs
      exact .inr (.inr ⟨a, valV ws k, rfl, by rw [keyOf_ok rx hk]; exact .inl ⟨ws, k, .inr ⟨o, hd⟩, rfl, rfl⟩, c.here h s (by rw [Bool.false_xor, w1]; exact .bl _)⟩)
    · exact h.elim
  · exact h.elim
theorem notin_ok (hu : X.A.units + 65 < cLine) : CmpOk X .NotIn := by
  refine ⟨_, (op_notInT hu).or ((op_notInD hu).or (op_notInK hu)), ?_⟩
  intro H S x' y' x y Q0 Q s rx ry h c
  simp only [cmpP, inP] at h
  split at h
  · split at h
    · rename_i d ds hd he
      obtain ⟨a1, a2⟩ := dat_ok s rx hd
      obtain ⟨b1, b2⟩ := dat_ok s ry he
      exact .inl ⟨d, ds, a1, b1, a2, b2, c.here h s (by rw [Bool.true_xor]; exact .bl _)⟩
    · exact h.elim
  · rename_i a
    cases ry
    split at h
    · rename_i kvs ea
      split at h
      · rename_i o ho
        obtain ⟨w, g, q, _⟩ := dget_ok s ea rx ho
        exact .inr (.inr ⟨a, w, rfl, g, c.here h s (by rw [Bool.true_xor, q]; exact .bl _)⟩)
      · exact h.elim
    · split at h
      · rename_i d ds hd he
        obtain ⟨a1, a2⟩ := dat_ok s rx hd
        obtain ⟨b1, b2⟩ := dat_ok s (.ref a) he
        exact .inr (.inl ⟨d, ds, a1, b1, a2, b2, c.here h s (by rw [Bool.true_xor]; exact .bl _)⟩)
      · exact h.elim
  · split at h
    · rename_i d ds hd he
      obtain ⟨a1, a2⟩ := dat_ok s rx hd
      obtain ⟨b1, b2⟩ := dat_ok s ry he
      exact .inr (.inl ⟨d, ds, a1, b1, a2, b2, c.here h s (by rw [Bool.true_xor]; exact .bl _)⟩)
    · exact h.elim
  · rename_i kvs
    cases ry with
    | @dic _ a o ws hd e rs =>
    split at h
    · rename_i k hk
      obtain ⟨w1, _⟩ := valP_ok k kvs ws e rs
      exact .inr (.inr ⟨a, valV ws k, rfl, by rw [keyOf_ok rx hk]; exact .inl ⟨ws, k, .inr ⟨o, hd⟩, rfl, rfl⟩, c.here h s (by rw [Bool.true_xor, w1]; exact .bl _)⟩)
    · exact h.elim
  · exact h.elim
theorem is_ok : CmpOk X .Is := by
  refine ⟨_, op_isN.or op_isBl, ?_⟩
  intro H S x' y' x y Q0 Q s rx ry h c
  simp only [cmpP, isP] at h
  split at h
  · cases rx; cases ry; exact .inl ⟨rfl, c.here h s (.bl _)⟩
  · rename_i x' hx
    cases ry
    refine .inl ⟨rfl, c.here h s ?_⟩
    have : decide (x = V.non) = false := by
      cases rx <;> first | (exfalso; exact hx rfl) | rfl
    rw [this]; exact .bl _
  · cases rx; cases ry; exact .inr ⟨_, _, rfl, rfl, c.here h s (by rw [Bool.false_xor]; exact .bl _)⟩
  · exact h.elim
theorem isnot_ok : CmpOk X .IsNot := by
  refine ⟨_, op_notN.or op_notBl, ?_⟩
  intro H S x' y' x y Q0 Q s rx ry h c
  simp only [cmpP, isP] at h
  split at h
  · cases rx; cases ry; exact .inl ⟨rfl, c.here h s (.bl _)⟩
  · rename_i x' hx
    cases ry
    refine .inl ⟨rfl, c.here h s ?_⟩
    have : decide (x = V.non) = false := by
      cases rx <;> first | (exfalso; exact hx rfl) | rfl
    rw [this]; exact .bl _
  · cases rx; cases ry; exact .inr ⟨_, _, rfl, rfl, c.here h s (by rw [Bool.true_xor]; exact .bl _)⟩
  · exact h.elim
theorem cmp_ok (hu : X.A.units + 65 < cLine) : ∀ op, CmpOk X op
  | .Eq => eq_ok hu | .NotEq => ne_ok hu | .In => in_ok hu | .NotIn => notin_ok hu | .Is => is_ok | .IsNot => isnot_ok
  | .Lt => ⟨_, op_lt, ord_ok⟩ | .LtE => ⟨_, op_le, ord_ok⟩ | .Gt => ⟨_, op_gt, ord_ok⟩ | .GtE => ⟨_, op_ge, ord_ok⟩
end
end PL

set_option Elab.async false
set_option linter.all false
set_option maxRecDepth 100000
set_option maxHeartbeats 4000000
/-! Built-in functions, items, slices, methods, stores, truth. -/
namespace PL
open PySem PySem.Spec L2

theorem intsP_ok {K : Fr8} {H : Hp} : ∀ {xs : List PV} {vs : List V} {ns : List Int}, RepVs K H xs vs → intsP xs = some ns → vs = ns.map V.int
  | [], _, _, r, h => by cases r; simp [intsP] at h; subst h; rfl
  | x :: xs, _, ns, r, h => by
    cases r with
    | cons r rs =>
      cases r with
      | int i =>
        simp only [intsP, Option.map_eq_some_iff] at h
        obtain ⟨ms, h1, h2⟩ := h
        subst h2
        rw [intsP_ok rs h1]; rfl
      | _ => simp [intsP] at h
theorem blsP_ok {K : Fr8} {H : Hp} : ∀ {xs : List PV} {vs : List V} {ns : List Bool}, RepVs K H xs vs → blsP xs = some ns → vs = ns.map V.bl
  | [], _, _, r, h => by cases r; simp [blsP] at h; subst h; rfl
  | x :: xs, _, ns, r, h => by
    cases r with
    | cons r rs =>
      cases r with
      | bl i =>
        simp only [blsP, Option.map_eq_some_iff] at h
        obtain ⟨ms, h1, h2⟩ := h
        subst h2
        rw [blsP_ok rs h1]; rfl
      | _ => simp [blsP] at h
theorem RepVs.ints {K : Fr8} {H : Hp} : ∀ ns : List Int, RepVs K H (ns.map PV.int) (ns.map V.int)
  | [] => .nil
  | n :: ns => .cons (.int n) (RepVs.ints ns)
theorem keyInts_ok : ∀ {ks : List Key} {ns : List Int}, keyInts ks = some ns → ks = ns.map Sum.inl
  | [], _, h => by simp [keyInts] at h; subst h; rfl
  | .inl i :: ks, _, h => by
    simp only [keyInts, Option.map_eq_some_iff] at h
    obtain ⟨ms, h1, h2⟩ := h
    subst h2
    rw [keyInts_ok h1]; rfl
  | .inr i :: ks, _, h => by simp [keyInts] at h
def Bf.val : Bf → Value
  | .tuple => .type "tuple" | .list => .type "list" | .int => .type "int"
  | .len => .builtin "len" | .abs => .builtin "abs" | .max1 => .builtin "max" | .max2 => .builtin "max" | .min1 => .builtin "min" | .min2 => .builtin "min"
  | .sum => .builtin "sum" | .all => .builtin "all" | .any => .builtin "any" | .sorted => .builtin "sorted"
def BltOk (X : Cx) (f : Bf) : Prop := ∃ r, CallR X f.val r ∧ ∀ H S xs' xs Q0 Q, RepS X.K S H → RepVs X.K H xs' xs → bltP f xs' S Q0 → ClE X.K H Q0 Q → r xs H Q
theorem R1 {K : Fr8} {H : Hp} {x : PV} {vs : List V} (r : RepVs K H [x] vs) : ∃ v, vs = [v] ∧ RepV K H x v := by
  cases r with
  | cons r rs => cases rs; exact ⟨_, rfl, r⟩
theorem R2' {K : Fr8} {H : Hp} {x y : PV} {vs : List V} (r : RepVs K H [x, y] vs) : ∃ v w, vs = [v, w] ∧ RepV K H x v ∧ RepV K H y w := by
  cases r with
  | cons r rs => obtain ⟨w, rfl, q⟩ := R1 rs; exact ⟨_, w, rfl, r, q⟩
section
variable {X : Cx}
theorem len_ok : BltOk X .len := by
  refine ⟨_, call_len.or call_lenD, ?_⟩
  intro H S xs' xs Q0 Q s rs h c
  unfold bltP at h
  split at h <;> first | exact h.elim | skip
  all_goals (rename_i heq; first | cases heq | skip)
  · rename_i z
    obtain ⟨v, rfl, r⟩ := R1 rs
    cases r
    exact .inl ⟨_, _, rfl, ⟨h.1, rfl⟩, c.here h.2 s (.int _)⟩
  · rename_i x hx heq
    obtain ⟨v, rfl, r⟩ := R1 rs
    split at h
    · rename_i ys hy
      obtain ⟨a, vs, rfl, r2, k⟩ := itemsP_ok s r hy
      refine .inl ⟨_, vs.length, rfl, ?_, ?_⟩
      · rcases k with ⟨_, k⟩ | ⟨_, k⟩
        · exact .inl ⟨vs, k, rfl⟩
        · exact .inr ⟨vs, k, rfl⟩
      · rw [← r2.length]; exact c.here h s (.int _)
    · split at h
      · rename_i a hn
        cases r
        split at h
        · rename_i kvs ea
          obtain ⟨ws, e, m, _⟩ := s a _ ea
          have hl : kvs.length = ws.length := by simpa using congrArg List.length m
          refine .inr ⟨a, ws, rfl, e, ?_⟩
          rw [← hl]
          exact c.here h s (.int _)
        · exact h.elim
      · exact h.elim
theorem abs_ok : BltOk X .abs := by
  refine ⟨_, call_abs, ?_⟩
  intro H S xs' xs Q0 Q s rs h c
  unfold bltP at h
  split at h <;> first | exact h.elim | skip
  all_goals (rename_i heq; first | cases heq | skip)
  rename_i i
  obtain ⟨v, rfl, r⟩ := R1 rs
  cases r
  refine ⟨i, rfl, ?_⟩
  have e : (if i < 0 then -i else i) = (i.natAbs : Int) := by split <;> omega
  rw [e]
  exact c.here h s (.int _)
theorem int_ok : BltOk X .int := by
  refine ⟨_, call_int1, ?_⟩
  intro H S xs' xs Q0 Q s rs h c
  unfold bltP at h
  split at h <;> first | exact h.elim | skip
  all_goals (rename_i heq; first | cases heq | skip)
  · obtain ⟨v, rfl, r⟩ := R1 rs
    cases r
    exact .inl ⟨_, rfl, c.here h s (.int _)⟩
  · obtain ⟨v, rfl, r⟩ := R1 rs
    cases r
    exact .inr ⟨_, rfl, c.here h s (.int _)⟩
theorem max2_ok (hc : X.calm = true) : BltOk X .max2 := by
  refine ⟨_, call_max2 hc, ?_⟩
  intro H S xs' xs Q0 Q s rs h c
  unfold bltP at h
  split at h <;> first | exact h.elim | skip
  all_goals (rename_i heq; first | cases heq | skip)
  rename_i i j
  obtain ⟨v, w, rfl, r, r'⟩ := R2' rs
  cases r; cases r'
  refine ⟨i, j, rfl, ?_⟩
  have e : (if j > i then j else i) = max i j := by split <;> omega
  rw [e]
  exact c.here h s (.int _)
theorem min2_ok (hc : X.calm = true) : BltOk X .min2 := by
  refine ⟨_, call_min2 hc, ?_⟩
  intro H S xs' xs Q0 Q s rs h c
  unfold bltP at h
  split at h <;> first | exact h.elim | skip
  all_goals (rename_i heq; first | cases heq | skip)
  rename_i i j
  obtain ⟨v, w, rfl, r, r'⟩ := R2' rs
  cases r; cases r'
  refine ⟨i, j, rfl, ?_⟩
  have e : (if j < i then j else i) = min i j := by split <;> omega
  rw [e]
  exact c.here h s (.int _)
theorem lints {S : Sto} {H : Hp} {x : PV} {v : V} {ns : List Int} (s : RepS X.K S H) (r : RepV X.K H x v) (h : (listP x S).bind intsP = some ns) : ∃ a, v = .ref a ∧ SqL X.K H a (ns.map V.int) := by
  cases e : listP x S with
  | none => rw [e] at h; cases h
  | some ys =>
    rw [e] at h
    obtain ⟨a, vs, rfl, h1, h2⟩ := listP_ok s r e
    have := intsP_ok h2 h
    subst this
    exact ⟨a, rfl, h1⟩
theorem lbls {S : Sto} {H : Hp} {x : PV} {v : V} {ns : List Bool} (s : RepS X.K S H) (r : RepV X.K H x v) (h : (listP x S).bind blsP = some ns) : ∃ a, v = .ref a ∧ SqL X.K H a (ns.map V.bl) := by
  cases e : listP x S with
  | none => rw [e] at h; cases h
  | some ys =>
    rw [e] at h
    obtain ⟨a, vs, rfl, h1, h2⟩ := listP_ok s r e
    have := blsP_ok h2 h
    subst this
    exact ⟨a, rfl, h1⟩
theorem max1_ok (hc : X.calm = true) : BltOk X .max1 := by
  refine ⟨_, cr_max hc, ?_⟩
  intro H S xs' xs Q0 Q s rs h c
  unfold bltP at h
  split at h <;> first | exact h.elim | skip
  all_goals (rename_i heq; first | cases heq | skip)
  obtain ⟨v, rfl, r⟩ := R1 rs
  split at h
  · rename_i n ns e
    obtain ⟨a, rfl, hl⟩ := lints s r e
    exact ⟨a, n :: ns, rfl, hl, by simp, fun m h1 h2 => c.here (h m h1 h2) s (.int _)⟩
  · exact h.elim
theorem min1_ok (hc : X.calm = true) : BltOk X .min1 := by
  refine ⟨_, cr_min hc, ?_⟩
  intro H S xs' xs Q0 Q s rs h c
  unfold bltP at h
  split at h <;> first | exact h.elim | skip
  all_goals (rename_i heq; first | cases heq | skip)
  obtain ⟨v, rfl, r⟩ := R1 rs
  split at h
  · rename_i n ns e
    obtain ⟨a, rfl, hl⟩ := lints s r e
    exact ⟨a, n :: ns, rfl, hl, by simp, fun m h1 h2 => c.here (h m h1 h2) s (.int _)⟩
  · exact h.elim
theorem sum_ok (hc : X.calm = true) : BltOk X .sum := by
  refine ⟨_, cr_sum hc, ?_⟩
  intro H S xs' xs Q0 Q s rs h c
  unfold bltP at h
  split at h <;> first | exact h.elim | skip
  all_goals (rename_i heq; first | cases heq | skip)
  obtain ⟨v, rfl, r⟩ := R1 rs
  split at h
  · rename_i ns e
    obtain ⟨a, rfl, hl⟩ := lints s r e
    exact ⟨a, ns, rfl, hl, c.here h s (.int _)⟩
  · exact h.elim
theorem all_ok (hc : X.calm = true) : BltOk X .all := by
  refine ⟨_, cr_all hc, ?_⟩
  intro H S xs' xs Q0 Q s rs h c
  unfold bltP at h
  split at h <;> first | exact h.elim | skip
  all_goals (rename_i heq; first | cases heq | skip)
  obtain ⟨v, rfl, r⟩ := R1 rs
  split at h
  · rename_i ns e
    obtain ⟨a, rfl, hl⟩ := lbls s r e
    exact ⟨a, ns, rfl, hl, c.here h s (.bl _)⟩
  · exact h.elim
theorem any_ok (hc : X.calm = true) : BltOk X .any := by
  refine ⟨_, cr_any hc, ?_⟩
  intro H S xs' xs Q0 Q s rs h c
  unfold bltP at h
  split at h <;> first | exact h.elim | skip
  all_goals (rename_i heq; first | cases heq | skip)
  obtain ⟨v, rfl, r⟩ := R1 rs
  split at h
  · rename_i ns e
    obtain ⟨a, rfl, hl⟩ := lbls s r e
    exact ⟨a, ns, rfl, hl, c.here h s (.bl _)⟩
  · exact h.elim
theorem sorted_ok (hc : X.calm = true) : BltOk X .sorted := by
  refine ⟨_, cr_sortedI.or (call_sortedDI hc), ?_⟩
  intro H S xs' xs Q0 Q s rs h c
  unfold bltP at h
  split at h <;> first | exact h.elim | skip
  all_goals (rename_i heq; first | cases heq | skip)
  obtain ⟨v, rfl, r⟩ := R1 rs
  split at h
  · rename_i ys e
    split at h
    · rename_i ns e2
      obtain ⟨a, rfl, hl⟩ := lints (ns := ns) s r (by rw [e]; exact e2)
      exact .inl ⟨a, ns, rfl, hl, fun ns' p h1 h2 hp => c.newL (h ns' h1 h2) s (RepVs.ints ns') hp⟩
    · exact h.elim
  · split at h
    · rename_i a hn
      cases r
      split at h
      · rename_i kvs ea
        split at h
        · rename_i ks ek
          obtain ⟨ws, e, m, _⟩ := s a _ ea
          exact .inr ⟨a, ws, ks, rfl, .inl e, by rw [← m]; exact keyInts_ok ek, h.1, fun ns' p h1 h2 hp => c.newL (h.2 ns' h1 h2) s (RepVs.ints ns') hp⟩
        · exact h.elim
      · exact h.elim
    · exact h.elim
theorem tuple_ok : BltOk X .tuple := by
  refine ⟨_, call_tuple_of, ?_⟩
  intro H S xs' xs Q0 Q s rs h c
  unfold bltP at h
  split at h <;> first | exact h.elim | skip
  all_goals (rename_i heq; first | cases heq | skip)
  obtain ⟨v, rfl, r⟩ := R1 rs
  split at h
  · rename_i ys e
    obtain ⟨a, vs, rfl, r2, k⟩ := itemsP_ok s r e
    refine ⟨a, vs, rfl, ?_⟩
    rcases k with ⟨_, k⟩ | ⟨_, k⟩
    · exact .inl ⟨k, fun l hl => c.newT h s r2 hl⟩
    · exact .inr ⟨k, c.here h s (.tup k r2)⟩
  · exact h.elim
theorem list_ok : BltOk X .list := by
  refine ⟨_, call_list_of, ?_⟩
  intro H S xs' xs Q0 Q s rs h c
  unfold bltP at h
  split at h <;> first | exact h.elim | skip
  all_goals (rename_i heq; first | cases heq | skip)
  obtain ⟨v, rfl, r⟩ := R1 rs
  split at h
  · rename_i ys e
    obtain ⟨a, vs, rfl, r2, k⟩ := itemsP_ok s r e
    refine ⟨a, vs, rfl, ?_, fun l hl => c.newL h s r2 hl⟩
    rcases k with ⟨_, k⟩ | ⟨_, k⟩
    · exact .inl k
    · exact .inr k
  · exact h.elim
theorem blt_ok (hc : X.calm = true) : ∀ f, BltOk X f
  | .len => len_ok | .abs => abs_ok | .max1 => max1_ok hc | .min1 => min1_ok hc | .max2 => max2_ok hc | .min2 => min2_ok hc | .sum => sum_ok hc | .all => all_ok hc | .any => any_ok hc
  | .sorted => sorted_ok hc | .tuple => tuple_ok | .list => list_ok | .int => int_ok

/-! ### frozen -/
theorem CallR.lck {f : Value} {r : List V → Hp → VK → Prop} (h : CallR X f r) : CallR X f (fun xs H Q => r xs H (lckQ Q)) := by
  intro pins s σ H xs us Q I rx hw
  refine thn (h pins s σ H xs us _ I rx hw) fun v s1 ⟨x, H1, I1, r, q⟩ => ?_
  rcases q with q | ⟨a, u, rfl, e1, mu, q⟩
  · exact ⟨x, H1, I1, r, q⟩
  · obtain ⟨od, I2⟩ := I1.lock e1 mu
    exact ⟨_, _, I2, r, q od⟩
def BltFOk (X : Cx) (f : Bf) : Prop := ∃ r, CallR X f.val r ∧ ∀ H S xs' xs Q0 Q, RepS X.K S H → RepVs X.K H xs' xs → bltFP f xs' S Q0 → ClE X.K H Q0 Q → r xs H Q
theorem insS_perm (n : Int) : ∀ l : List Int, (insS n l).Perm (n :: l)
  | [] => List.Perm.refl _
  | m :: r => by
    unfold insS
    split
    · exact List.Perm.refl _
    · exact ((insS_perm n r).cons m).trans (List.Perm.swap n m r)
theorem isort_perm : ∀ l : List Int, (isort l).Perm l
  | [] => List.Perm.refl _
  | n :: r => (insS_perm n (isort r)).trans ((isort_perm r).cons n)
theorem insS_sorted (n : Int) : ∀ l : List Int, l.Pairwise (· ≤ ·) → (insS n l).Pairwise (· ≤ ·)
  | [], _ => by simp [insS]
  | m :: r, h => by
    unfold insS
    rw [List.pairwise_cons] at h
    split
    · rename_i hn
      rw [List.pairwise_cons, List.pairwise_cons]
      refine ⟨fun a ha => ?_, h⟩
      rcases List.mem_cons.mp ha with e | e
      · rw [e]; exact hn
      · exact Int.le_trans hn (h.1 a e)
    · rename_i hn
      rw [List.pairwise_cons]
      refine ⟨fun a ha => ?_, insS_sorted n r h.2⟩
      rcases List.mem_cons.mp ((insS_perm n r).subset ha) with e | e
      · rw [e]; omega
      · exact h.1 a e
theorem isort_sorted : ∀ l : List Int, (isort l).Pairwise (· ≤ ·)
  | [] => List.Pairwise.nil
  | n :: r => insS_sorted n _ (isort_sorted r)
theorem sorted_one {l l' : List Int} (h : l.Pairwise (· ≤ ·)) (h' : l'.Pairwise (· ≤ ·)) (p : l.Perm l') : l = l' := by
  induction l generalizing l' with
  | nil => exact (List.Perm.nil_eq p)
  | cons a l ih =>
    cases l' with
    | nil => exact absurd p.symm (by intro z; exact (List.cons_ne_nil _ _) (List.Perm.nil_eq z).symm)
    | cons b l' =>
      rw [List.pairwise_cons] at h h'
      have e : a = b := by
        have h1 : a ∈ b :: l' := p.subset List.mem_cons_self
        have h2 : b ∈ a :: l := p.symm.subset List.mem_cons_self
        rcases List.mem_cons.mp h1 with e | e
        · exact e
        · rcases List.mem_cons.mp h2 with e2 | e2
          · exact e2.symm
          · have := h.1 b e2; have := h'.1 a e; omega
      subst e
      rw [ih h.2 h'.2 (List.Perm.cons_inv p)]
theorem isort_of {l l' : List Int} (p : l'.Perm l) (h : l'.Pairwise (· ≤ ·)) : l' = isort l := sorted_one h (isort_sorted l) (p.trans (isort_perm l).symm)
theorem insI_mem {n k : Int} : ∀ {l : List Int}, k ∈ insI n l ↔ k = n ∨ k ∈ l
  | [] => by simp [insI]
  | m :: r => by
    unfold insI
    split
    · simp
    · split
      · rename_i e; subst e; simp
      · rw [List.mem_cons, insI_mem, List.mem_cons]
        constructor
        · rintro (h | h | h) <;> simp [h]
        · rintro (h | h | h) <;> simp [h]
theorem ssort_mem {k : Int} : ∀ {l : List Int}, k ∈ ssort l ↔ k ∈ l
  | [] => by simp [ssort]
  | n :: r => by
    show k ∈ insI n (ssort r) ↔ _
    rw [insI_mem, ssort_mem, List.mem_cons]
theorem insI_sorted (n : Int) : ∀ l : List Int, l.Pairwise (· < ·) → (insI n l).Pairwise (· < ·)
  | [], _ => by simp [insI]
  | m :: r, h => by
    unfold insI
    split
    · rename_i hn
      rw [List.pairwise_cons]
      refine ⟨fun a ha => ?_, h⟩
      rw [List.pairwise_cons] at h
      rcases List.mem_cons.mp ha with e | e
      · rw [e]; exact hn
      · exact Int.lt_trans hn (h.1 a e)
    · split
      · exact h
      · rw [List.pairwise_cons] at h ⊢
        refine ⟨fun a ha => ?_, insI_sorted n r h.2⟩
        rcases insI_mem.mp ha with e | e
        · rw [e]; omega
        · exact h.1 a e
theorem ssort_sorted : ∀ l : List Int, (ssort l).Pairwise (· < ·)
  | [] => List.Pairwise.nil
  | n :: r => insI_sorted n _ (ssort_sorted r)
theorem strict_one {l l' : List Int} (h : l.Pairwise (· < ·)) (h' : l'.Pairwise (· < ·)) (p : ∀ k, k ∈ l ↔ k ∈ l') : l = l' := by
  induction l generalizing l' with
  | nil =>
    cases l' with
    | nil => rfl
    | cons b l' => exact absurd ((p b).mpr List.mem_cons_self) (by simp)
  | cons a l ih =>
    cases l' with
    | nil => exact absurd ((p a).mp List.mem_cons_self) (by simp)
    | cons b l' =>
      rw [List.pairwise_cons] at h h'
      have e : a = b := by
        have h1 : a ∈ b :: l' := (p a).mp List.mem_cons_self
        have h2 : b ∈ a :: l := (p b).mpr List.mem_cons_self
        rcases List.mem_cons.mp h1 with e | e
        · exact e
        · rcases List.mem_cons.mp h2 with e2 | e2
          · exact e2.symm
          · have := h.1 b e2; have := h'.1 a e; omega
      subst e
      rw [ih h.2 h'.2 fun k => ?_]
      constructor
      · intro hk
        have := (p k).mp (List.mem_cons_of_mem _ hk)
        rcases List.mem_cons.mp this with e | e
        · have := h.1 k hk; omega
        · exact e
      · intro hk
        have := (p k).mpr (List.mem_cons_of_mem _ hk)
        rcases List.mem_cons.mp this with e | e
        · have := h'.1 k hk; omega
        · exact e
theorem sortedF_ok (hc : X.calm = true) : BltFOk X .sorted := by
  refine ⟨_, CallR.lck (cr_sortedI.or (call_sortedDI hc)), ?_⟩
  intro H S xs' xs Q0 Q s rs h c
  unfold bltFP at h
  split at h <;> first | exact h.elim | skip
  all_goals (rename_i heq; first | cases heq | skip)
  obtain ⟨v, rfl, r⟩ := R1 rs
  split at h
  · rename_i ns e
    obtain ⟨a, rfl, hl⟩ := lints (ns := ns) s r e
    exact .inl ⟨a, ns, rfl, hl, fun ns' p h1 h2 hp => c.newF h s (by rw [isort_of h1 h2]; exact RepVs.ints _) hp⟩
  · split at h
    · rename_i a hn
      cases r
      split at h
      · rename_i kvs ea
        split at h
        · rename_i ks ek
          obtain ⟨ws, e, m, _⟩ := s a _ ea
          exact .inr ⟨a, ws, ks, rfl, .inl e, by rw [← m]; exact keyInts_ok ek, h.1, fun ns' p h1 h2 hp => c.newF h.2 s (by rw [isort_of h1 h2]; exact RepVs.ints _) hp⟩
        · exact h.elim
      · exact h.elim
    · rename_i kvs hn
      cases r with
      | @dic _ a o ws hd e rs =>
      split at h
      · rename_i ks ek
        exact .inr ⟨a, ws, ks, rfl, .inr ⟨o, hd⟩, by rw [← e]; exact keyInts_ok ek, h.1, fun ns' p h1 h2 hp => c.newF h.2 s (by rw [isort_of h1 h2]; exact RepVs.ints _) hp⟩
      · exact h.elim
    · exact h.elim
theorem listF_ok : BltFOk X .list := by
  refine ⟨_, CallR.lck call_list_of, ?_⟩
  intro H S xs' xs Q0 Q s rs h c
  unfold bltFP at h
  split at h <;> first | exact h.elim | skip
  all_goals (rename_i heq; first | cases heq | skip)
  obtain ⟨v, rfl, r⟩ := R1 rs
  split at h
  · rename_i ys e
    obtain ⟨a, vs, rfl, r2, k⟩ := itemsP_ok s r e
    refine ⟨a, vs, rfl, ?_, fun l hl => c.newF h s r2 hl⟩
    rcases k with ⟨_, k⟩ | ⟨_, k⟩
    · exact .inl k
    · exact .inr k
  · exact h.elim
theorem noF_ok {f : Bf} (h : ∀ xs S Q, bltFP f xs S Q = False) : BltFOk X f := by
  refine ⟨fun _ _ _ => False, fun _ _ _ _ _ _ _ _ _ q => q.elim, fun H S xs' xs Q0 Q _ _ q _ => ?_⟩
  rw [h] at q; exact q
theorem bltF_ok (hc : X.calm = true) : ∀ f, BltFOk X f
  | .sorted => sortedF_ok hc | .list => listF_ok | .len => noF_ok fun _ _ _ => rfl | .abs => noF_ok fun _ _ _ => rfl | .max1 => noF_ok fun _ _ _ => rfl | .min1 => noF_ok fun _ _ _ => rfl
  | .max2 => noF_ok fun _ _ _ => rfl | .min2 => noF_ok fun _ _ _ => rfl | .sum => noF_ok fun _ _ _ => rfl | .all => noF_ok fun _ _ _ => rfl | .any => noF_ok fun _ _ _ => rfl | .tuple => noF_ok fun _ _ _ => rfl | .int => noF_ok fun _ _ _ => rfl

/-! ### items -/
theorem ix_dict (hu : X.A.units + 65 < cLine) : IxR X (fun x y H Q => ∃ a v, x = .ref a ∧ DGet H a y (some v) ∧ Q v H) := by
  intro value slice pins s σ H x y v u Q I rx ry h hs
  obtain ⟨a, w, rfl, g, q⟩ := h
  obtain rfl : v = Value.ref a := rx
  exact PyProof.Rows.tail_any (ops := [.ref a, u]) (dict_typeIs I g) PySem.F.slot_dict_getitem.lookup (d_getItem (by omega) I g ry fun w' s3 I3 rw' => ⟨w, H, I3, rw', q⟩) hs
theorem atI_ok {K : Fr8} {H : Hp} {xs : List PV} {vs : List V} {i : Int} {x : PV} (r : RepVs K H xs vs) (h : atI xs i = some x) : ∃ v, atI vs i = some v ∧ RepV K H x v := by
  unfold atI at h ⊢
  rw [r.length] at h
  cases e : ixN vs.length i with
  | none => rw [e] at h; cases h
  | some j => rw [e] at h; exact r.get h
theorem idx_ok (hu : X.A.units + 65 < cLine) : ∃ r, IxR X r ∧ R2Ok X.K r idxP := by
  refine ⟨_, ix_seq.or (ix_dict hu), ?_⟩
  intro H S x' y' x y Q0 Q s rx ry h c
  unfold idxP at h
  split at h
  · rename_i xs i
    cases ry
    cases rx with
    | @tup _ a vs ha ra =>
    split at h
    · rename_i z e
      obtain ⟨v, e2, r2⟩ := atI_ok ra e
      exact .inl (.inr (.inl ⟨a, vs, i, v, rfl, rfl, ha, e2, c.here h s r2⟩))
    · exact h.elim
  · rename_i xs i
    cases ry
    cases rx with
    | @rol _ a vs ha ra =>
    split at h
    · rename_i z e
      obtain ⟨v, e2, r2⟩ := atI_ok ra e
      exact .inl (.inl ⟨a, vs, i, v, rfl, rfl, ha.sq, e2, c.here h s r2⟩)
    · exact h.elim
  · rename_i kvs
    cases rx with
    | @dic _ a o ws hd e rs =>
    split at h
    · rename_i v hv
      cases hk : keyOf y' with
      | none => rw [hk] at hv; cases hv
      | some k =>
        rw [hk] at hv
        obtain ⟨_, w2⟩ := valP_ok k kvs ws e rs
        obtain ⟨u, e2, r2⟩ := w2 v hv
        exact .inr ⟨a, u, rfl, by rw [keyOf_ok ry hk]; exact .inl ⟨ws, k, .inr ⟨o, hd⟩, rfl, e2.symm⟩, c.here h s r2⟩
    · exact h.elim
  · rename_i z i
    cases ry; cases rx
    obtain ⟨hz, h⟩ := h
    split at h
    · rename_i cc e
      exact .inl (.inr (.inr ⟨z, i, cc, rfl, rfl, hz, e, c.here h s (.str _)⟩))
    · exact h.elim
  · rename_i y0 a
    cases rx
    split at h
    · rename_i xs ea
      obtain ⟨vs, h1, h2⟩ := s.lst ea
      split at h
      · rename_i i
        cases ry
        split at h
        · rename_i z e
          obtain ⟨v, e2, r2⟩ := atI_ok h2 e
          exact .inl (.inl ⟨a, vs, i, v, rfl, rfl, .inl (.inl h1), e2, c.here h s r2⟩)
        · exact h.elim
      · exact h.elim
    · rename_i o hn ea
      split at h
      · rename_i z e
        obtain ⟨w, g, _, k⟩ := dget_ok s ea ry e
        obtain ⟨u, rfl, r2⟩ := k _ rfl
        exact .inr ⟨a, u, rfl, g, c.here h s r2⟩
      · exact h.elim
    · exact h.elim
  · exact h.elim
/-! ### slices -/
theorem cut_ok {K : Fr8} {H : Hp} {xs : List PV} {vs : List V} (r : RepVs K H xs vs) (lo hi : Option Int) : RepVs K H (cutP xs lo hi) (cutV vs lo hi) := by
  unfold cutP cutV
  rw [r.length]
  exact (r.drop _).take _
theorem cut_whole {xs : List PV} {lo hi : Option Int} (h : HT.sIx xs.length 0 lo = 0 ∧ HT.sIx xs.length xs.length hi = xs.length) : cutP xs lo hi = xs := by
  unfold cutP
  rw [h.1, h.2]
  simp
theorem SlR.lck {r : V → Option Int → Option Int → Hp → VK → Prop} (h : SlR X r) : SlR X (fun x lo hi H Q => r x lo hi H (lckQ Q)) := by
  intro pins s σ H x v vl vu lo hi sl Q I rx hs pl pu hw
  obtain ⟨T, id, a, b, hr⟩ := h pins s σ H x v vl vu lo hi sl _ I rx hs pl pu hw
  refine ⟨T, id, a, b, thn hr fun v s1 ⟨x, H1, I1, r, q⟩ => ?_⟩
  rcases q with q | ⟨a, u, rfl, e1, mu, q⟩
  · exact ⟨x, H1, I1, r, q⟩
  · obtain ⟨od, I2⟩ := I1.lock e1 mu
    exact ⟨_, _, I2, r, q od⟩
theorem sl_ok : ∃ r, SlR X r ∧ ∀ H S x' x lo hi Q0 Q, RepS X.K S H → RepV X.K H x' x → slP x' lo hi S Q0 → ClE X.K H Q0 Q → r x lo hi H Q := by
  refine ⟨_, sl_tupA.or (sl_list.or (SlR.lck sl_list)), ?_⟩
  intro H S x' x lo hi Q0 Q s rx h c
  unfold slP at h
  split at h
  · rename_i xs
    cases rx with
    | @tup _ a vs ha ra =>
    refine .inl ⟨a, vs, rfl, ha, fun k => ?_, fun _ p hp => c.newT h s (cut_ok ra lo hi) hp⟩
    rw [cut_whole (by rw [ra.length]; exact k)] at h
    exact c.here h s (.tup ha ra)
  · rename_i xs
    cases rx with
    | @rol _ a vs ha ra => exact .inr (.inr ⟨a, vs, rfl, ha.sq, fun p hp => c.newF h s (cut_ok ra lo hi) hp⟩)
  · rename_i a
    cases rx
    split at h
    · rename_i xs ea
      obtain ⟨vs, h1, h2⟩ := s.lst ea
      exact .inr (.inl ⟨a, vs, rfl, .inl (.inl h1), fun p hp => c.newL h s (cut_ok h2 lo hi) hp⟩)
    · exact h.elim
  · exact h.elim
theorem slF_ok : ∃ r, SlR X r ∧ ∀ H S x' x lo hi Q0 Q, RepS X.K S H → RepV X.K H x' x → slFP x' lo hi S Q0 → ClE X.K H Q0 Q → r x lo hi H Q := by
  refine ⟨_, SlR.lck sl_list, ?_⟩
  intro H S x' x lo hi Q0 Q s rx h c
  unfold slFP at h
  split at h
  · rename_i xs e
    obtain ⟨a, vs, rfl, h1, h2⟩ := listP_ok s rx e
    exact ⟨a, vs, rfl, h1, fun p hp => c.newF h s (cut_ok h2 lo hi) hp⟩
  · exact h.elim
/-! ### methods of lists, stores -/
theorem ClE.setL {K : Fr8} {H : Hp} {Q0 : PK1} {Q : VK} (c : ClE K H Q0 Q) {a : Addr} {ys : List PV} {vs ws : List V} {S : Sto} {x : PV} {v : V} (q : Q0 x (updS S a (.lst ys))) (s : RepS K S H) (ha : H a = some (.lst ws)) (r : RepVs K H ys vs) (rx : RepV K H x v) : Q v (upd H a (.lst vs)) := by
  have t : TExt K H (upd H a (.lst vs)) := TExt.set ha trivial
  exact c x _ _ v q t (s.set ha trivial ⟨vs, upd_same, r.mono t⟩) (rx.mono t)
def Mt.nm : Mt → String
  | .append => "list.append" | .extend => "list.extend" | .pop => "list.pop" | .popAt => "list.pop"
def MthOk (X : Cx) (m : Mt) : Prop := ∃ r, MtR X m.nm r ∧ ∀ H S o' o xs' xs Q0 Q, RepS X.K S H → RepV X.K H o' o → RepVs X.K H xs' xs → mthP m o' xs' S Q0 → ClE X.K H Q0 Q → r o xs H Q
theorem append_ok : MthOk X .append := by
  refine ⟨_, mt_append, ?_⟩
  intro H S o' o xs' xs Q0 Q s ro rs h c
  unfold mthP at h
  split at h
  · rename_i a
    cases ro
    split at h
    · rename_i ys ea
      obtain ⟨vs, h1, h2⟩ := s.lst ea
      split at h <;> first | exact h.elim | skip
      all_goals (rename_i heq; first | cases heq | skip)
      obtain ⟨v, rfl, r⟩ := R1 rs
      exact ⟨a, vs, v, rfl, rfl, h1, by rw [← h2.length]; exact h.1, c.setL h.2 s h1 (h2.app (.cons r .nil)) .non⟩
    · exact h.elim
  · exact h.elim
theorem extend_ok : MthOk X .extend := by
  refine ⟨_, mt_extend, ?_⟩
  intro H S o' o xs' xs Q0 Q s ro rs h c
  unfold mthP at h
  split at h
  · rename_i a
    cases ro
    split at h
    · rename_i ys ea
      obtain ⟨vs, h1, h2⟩ := s.lst ea
      split at h <;> first | exact h.elim | skip
      all_goals (rename_i heq; first | cases heq | skip)
      obtain ⟨v, rfl, r⟩ := R1 rs
      cases r
      split at h
      · rename_i zs eb
        obtain ⟨ws, h3, h4⟩ := s.lst eb
        exact ⟨a, _, vs, ws, rfl, rfl, h1, h3, by rw [← h2.length, ← h4.length]; exact h.1, c.setL h.2 s h1 (h2.app h4) .non⟩
      · exact h.elim
    · exact h.elim
  · exact h.elim
theorem pop_ok : MthOk X .pop := by
  refine ⟨_, mt_pop, ?_⟩
  intro H S o' o xs' xs Q0 Q s ro rs h c
  unfold mthP at h
  split at h
  · rename_i a
    cases ro
    split at h
    · rename_i ys ea
      obtain ⟨vs, h1, h2⟩ := s.lst ea
      split at h <;> first | exact h.elim | skip
      all_goals (rename_i heq; first | cases heq | skip)
      cases rs
      split at h
      · rename_i y e
        obtain ⟨v, e2, r2⟩ := h2.get e
        rw [h2.length] at e2
        exact ⟨a, vs, v, rfl, rfl, h1, e2, c.setL h s h1 h2.dropLast r2⟩
      · exact h.elim
    · exact h.elim
  · exact h.elim
theorem popAt_ok : MthOk X .popAt := by
  refine ⟨_, mt_popAt, ?_⟩
  intro H S o' o xs' xs Q0 Q s ro rs h c
  unfold mthP at h
  split at h
  · rename_i a
    cases ro
    split at h
    · rename_i ys ea
      obtain ⟨vs, h1, h2⟩ := s.lst ea
      split at h <;> first | exact h.elim | skip
      all_goals (rename_i heq; first | cases heq | skip)
      rename_i i
      obtain ⟨v, rfl, r⟩ := R1 rs
      cases r
      obtain ⟨hb, h⟩ := h
      split at h
      · rename_i k ek
        split at h
        · rename_i y e
          obtain ⟨v, e2, r2⟩ := h2.get e
          exact ⟨a, vs, i, k, v, rfl, rfl, h1, hb.1, hb.2, by rw [← h2.length]; exact ek, e2, c.setL h s h1 (h2.eraseIdx k) r2⟩
        · exact h.elim
      · exact h.elim
    · exact h.elim
  · exact h.elim
theorem mth_ok : ∀ m, MthOk X m
  | .append => append_ok | .extend => extend_ok | .pop => pop_ok | .popAt => popAt_ok
end
end PL

set_option Elab.async false
set_option linter.all false
set_option maxRecDepth 100000
set_option maxHeartbeats 4000000
/-! The rules for expressions, over sub-expressions' readings. -/
namespace PL
open PySem PySem.Spec L2

section
variable {X : Cx} {a b d : Expr} {pos : Pos} {ta tb td : PTE}
theorem l2 {K : Fr8} {r : R2} {p : PR2} (h2 : R2Ok K r p) {σ : L2.St} {H : Hp} {Q : VK} (h : liE K (fun ρ S Q => ta ρ S fun x S1 => tb ρ S1 fun y S2 => p x y S2 Q) σ H Q) : tOp r (liE K ta) (liE K tb) σ H Q := by
  obtain ⟨ρ, S, Q0, re, rs, h, c⟩ := h
  refine ⟨ρ, S, _, re, rs, h, fun x S1 H1 v q t1 s1 r1 => ?_⟩
  refine ⟨ρ, S1, _, re.mono t1, s1, q, fun y S2 H2 w q2 t2 s2 r2 => ?_⟩
  exact h2 H2 S2 x y v w Q0 Q s2 (r1.mono t2) r2 q2 (c.mono (t1.trans t2))
theorem le_bin {op : Operator} (ho : BinOk X op) (ha : LE X a ta) (hb : LE X b tb) : LE X (.BinOp a op b pos) (fun ρ S Q => ta ρ S fun x S1 => tb ρ S1 fun y S2 => binP op x y S2 Q) := by
  obtain ⟨r, h1, h2⟩ := ho
  exact peW (pe_op h1 ha hb) fun σ H Q h => l2 h2 h
theorem le_cmp {op : CmpOp} (ho : CmpOk X op) (hm : behindInMarks op b = false) (ha : LE X a ta) (hb : LE X b tb) : LE X (.Compare a [op] [b] pos) (fun ρ S Q => ta ρ S fun x S1 => tb ρ S1 fun y S2 => cmpP op x y S2 Q) := by
  obtain ⟨r, h1, h2⟩ := ho
  exact peW (pe_cmpR h1 ha hb hm) fun σ H Q h => l2 h2 h
theorem le_idx (hu : X.A.units + 65 < cLine) (hp : PlainIx b) (ha : LE X a ta) (hb : LE X b tb) : LE X (.Subscript a b pos) (fun ρ S Q => ta ρ S fun x S1 => tb ρ S1 fun y S2 => idxP x y S2 Q) := by
  obtain ⟨r, h1, h2⟩ := idx_ok hu
  exact peW (pe_ix h1 ha hb hp) fun σ H Q h => l2 h2 h
theorem le_var {i : Nat} {x : Str} (hN : X.N[i]? = some x) (hv : Vis X.env.scope x) (hd : (x == ("__debug__" : Str)) = false) (hcd : (x == ("__classdict__" : Str)) = false) :
    LE X (.Name x pos) (fun ρ S Q => match ρ[i]? with
    | some (some x) => Q x S
    | _ => False) := by
  refine peW (pe_var hN hv hd hcd) fun σ H Q h => ?_
  obtain ⟨ρ, S, Q0, re, rs, h, c⟩ := h
  split at h
  · rename_i x e
    obtain ⟨v, e2, r⟩ := re.2 i x e
    exact ⟨v, e2, c.here h rs r⟩
  · exact h.elim
theorem le_lit {v : PV} {w : V} (hr : ∀ H, RepV X.K H v w) (h : PE X a (tC w)) : LE X a (fun _ S Q => Q v S) := by
  refine peW h fun σ H Q h => ?_
  obtain ⟨ρ, S, Q0, re, rs, h, c⟩ := h
  exact c.here h rs (hr H)
theorem le_neg (ha : LE X a ta) : LE X (.UnaryOp .USub a pos) (fun ρ S Q => ta ρ S fun x S1 => match x with
    | .int i => Q (.int (-i)) S1
    | _ => False) := by
  refine peW (pe_un un_neg ha) fun σ H Q h => ?_
  obtain ⟨ρ, S, Q0, re, rs, h, c⟩ := h
  refine ⟨ρ, S, _, re, rs, h, fun x S1 H1 v q t1 s1 r1 => ?_⟩
  split at q
  · cases r1; exact ⟨_, rfl, (c.mono t1).here q s1 (.int _)⟩
  · exact q.elim
theorem tru_of {K : Fr8} {S : Sto} {H : Hp} {x : PV} {v : V} {k : Bool} (s : RepS K S H) (r : RepV K H x v) (h : truP x S = some k) : TruV K v H k := by
  cases r with
  | non => simp [truP] at h; exact h.symm ▸ rfl
  | bl b => simp [truP] at h; subst h; rfl
  | int i => simp [truP] at h; subst h; rfl
  | str x => simp [truP] at h
  | tup h1 h2 =>
    simp only [truP, Option.some.injEq] at h
    subst h
    exact .inr (.inl ⟨_, h1, by cases h2 <;> rfl⟩)
  | rol h1 h2 =>
    simp only [truP, Option.some.injEq] at h
    subst h
    exact .inl ⟨_, h1.sq, by cases h2 <;> rfl⟩
  | dic _ _ _ => simp [truP] at h
  | ref a =>
    simp only [truP] at h
    split at h
    · rename_i xs e
      cases h
      obtain ⟨vs, h1, h2⟩ := s.lst e
      exact .inl ⟨_, .inl (.inl h1), by cases h2 <;> rfl⟩
    · rename_i kvs e
      cases h
      obtain ⟨ws, h1, m, _⟩ := s a _ e
      refine .inr (.inr ⟨_, h1, ?_⟩)
      cases kvs <;> cases ws <;> first | rfl | simp at m
    · cases h
/-- a plain test -/
theorem lt_of (ha : LE X a ta) (he : ∀ whole, PySem.isTrue a X.env whole = (do let v ← whole; standAt a.pos; holding [v] (truthy v))) : LT X a (fun ρ S Q => ta ρ S (truQ Q)) := by
  refine ptW (pt_truth ha he) fun σ H Q h => ?_
  obtain ⟨ρ, S, Q0, re, rs, h, c⟩ := h
  refine ⟨ρ, S, _, re, rs, h, fun x S1 H1 v q t1 s1 r1 => ?_⟩
  unfold truQ at q
  split at q
  · rename_i k e; exact ⟨k, tru_of s1 r1 e, c k S1 H1 q t1 s1⟩
  · exact q.elim
theorem lt_cmp {op : CmpOp} (ho : CmpOk X op) (hm : behindInMarks op b = false) (ha : LE X a ta) (hb : LE X b tb) : LT X (.Compare a [op] [b] pos) (fun ρ S Q => ta ρ S fun x S1 => tb ρ S1 fun y S2 => cmpP op x y S2 (truQ Q)) := by
  obtain ⟨r, h1, h2⟩ := ho
  refine ⟨fun pins s σ H Q I h => ?_⟩
  have h' : tOp r (liE X.K ta) (liE X.K tb) σ H (fun v H' => ∃ k, TruV X.K v H' k ∧ Q k H') := by
    obtain ⟨ρ, S, Q0, re, rs, h, c⟩ := h
    refine l2 h2 ⟨ρ, S, _, re, rs, h, fun x S1 H1 v q t1 s1 r1 => ?_⟩
    unfold truQ at q
    split at q
    · rename_i k e; exact ⟨k, tru_of s1 r1 e, c k S1 H1 q t1 s1⟩
    · exact q.elim
  refine wpAny_isTrue_Compare1 ?_ hm
  refine thn (ha.run pins s σ H _ I h') fun v s1 ⟨x, H1, I1, r1, q1⟩ => ?_
  refine thn (hb.run pins s1 σ H1 _ I1 q1) fun u s2 ⟨y, H2, I2, r2, q2⟩ => ?_
  refine thn (h1 pins s2 σ H2 x y v u _ I2 r1 r2 q2) fun w s3 ⟨z, H3, I3, r3, q3⟩ => ?_
  exact tru_ok pins s3 σ H3 z w Q I3 r3 q3
theorem lt_not (ha : LT X a (fun ρ S Q => ta ρ S (truQ Q))) : LT X (.UnaryOp .Not a pos) (fun ρ S Q => ta ρ S (truQ fun k S1 => truQ Q (.bl (!k)) S1)) := by
  refine ptW (pt_not ha) fun σ H Q h => ?_
  obtain ⟨ρ, S, Q0, re, rs, h, c⟩ := h
  exact ⟨ρ, S, _, re, rs, h, fun k S1 H1 q t1 s1 => c (!k) S1 H1 q t1 s1⟩
theorem le_not (ha : LE X a ta) : LE X (.UnaryOp .Not a pos) (fun ρ S Q => ta ρ S (truQ fun k S1 => Q (.bl (!k)) S1)) := by
  refine peW (pe_notT ha) fun σ H Q h => ?_
  obtain ⟨ρ, S, Q0, re, rs, h, c⟩ := h
  refine ⟨ρ, S, _, re, rs, h, fun x S1 H1 v q t1 s1 r1 => ?_⟩
  unfold truQ at q
  split at q
  · rename_i k e; exact ⟨k, tru_of s1 r1 e, (c.mono t1).here q s1 (.bl _)⟩
  · exact q.elim
theorem le_ite {tc : PTE} (hc : LT X d (fun ρ S Q => tc ρ S (truQ Q))) (ha : LE X a ta) (hb : LE X b tb) : LE X (.IfExp d a b pos) (fun ρ S Q => tc ρ S (truQ fun k S1 => if k = true then ta ρ S1 Q else tb ρ S1 Q)) := by
  refine peW (pe_ifExp hc ha hb) fun σ H Q h => ?_
  obtain ⟨ρ, S, Q0, re, rs, h, c⟩ := h
  refine ⟨ρ, S, _, re, rs, h, fun k S1 H1 q t1 s1 => ?_⟩
  cases k with
  | true => exact ⟨ρ, S1, Q0, re.mono t1, s1, q, c.mono t1⟩
  | false => exact ⟨ρ, S1, Q0, re.mono t1, s1, q, c.mono t1⟩
theorem lt_ite {tc : PTE} (hc : LT X d (fun ρ S Q => tc ρ S (truQ Q))) (ha : LT X a (fun ρ S Q => ta ρ S (truQ Q))) (hb : LT X b (fun ρ S Q => tb ρ S (truQ Q))) :
    LT X (.IfExp d a b pos) (fun ρ S Q => tc ρ S (truQ fun k S1 => if k = true then ta ρ S1 (truQ Q) else tb ρ S1 (truQ Q))) := by
  refine ⟨fun pins s σ H Q I h => ?_⟩
  obtain ⟨ρ, S, Q0, re, rs, h, c⟩ := h
  unfold PySem.isTrue
  refine wpAny_bind (thn (hc.run pins s σ H (fun k H1 => liT X.K (fun ρ S Q => if k = true then ta ρ S (truQ Q) else tb ρ S (truQ Q)) σ H1 Q) I ⟨ρ, S, _, re, rs, h, fun k S1 H1 q t1 s1 => ⟨ρ, S1, Q0, re.mono t1, s1, q, c.mono t1⟩⟩) fun k s1 ⟨H1, I1, q1⟩ => ?_)
  cases k with
  | true => exact ha.run pins s1 σ H1 Q I1 q1
  | false => exact hb.run pins s1 σ H1 Q I1 q1
def chnP (op op' : CmpOp) (ta tb td : PTE) : PTE := fun ρ S Q => ta ρ S fun x S1 => tb ρ S1 fun y S2 => cmpP op x y S2 fun z S3 => match z with
    | .bl true => td ρ S3 fun u S4 => cmpP op' y u S4 fun r S5 => match r with
      | .bl k => Q (.bl k) S5
      | _ => False
    | .bl false => Q (.bl false) S3
    | _ => False
theorem l3 {op op' : CmpOp} {r r' : R2} (h2 : R2Ok X.K r (cmpP op)) (h3 : R2Ok X.K r' (cmpP op')) {σ : L2.St} {H : Hp} {Q : VK} (h : liE X.K (chnP op op' ta tb td) σ H Q) : tChain r r' (liE X.K ta) (liE X.K tb) (liE X.K td) σ H Q := by
  obtain ⟨ρ, S, Q0, re, rs, h, c⟩ := h
  refine ⟨ρ, S, _, re, rs, h, fun x S1 H1 v q t1 s1 r1 => ?_⟩
  refine ⟨ρ, S1, _, re.mono t1, s1, q, fun y S2 H2 w q2 t2 s2 r2 => ?_⟩
  refine h2 H2 S2 x y v w _ _ s2 (r1.mono t2) r2 q2 fun z S3 H3 z' q3 t3 s3 r3 => ?_
  split at q3
  · cases r3
    refine ⟨true, rfl, ?_⟩
    rw [if_pos rfl]
    refine ⟨ρ, S3, _, re.mono (t1.trans (t2.trans t3)), s3, q3, fun u S4 H4 u' q4 t4 s4 r4 => ?_⟩
    refine h3 H4 S4 y u w u' _ _ s4 (r2.mono (t3.trans t4)) r4 q4 fun k S5 H5 k' q5 t5 s5 r5 => ?_
    split at q5
    · exact c _ _ _ _ q5 (t1.trans (t2.trans (t3.trans (t4.trans t5)))) s5 r5
    · exact q5.elim
  · cases r3
    refine ⟨false, rfl, ?_⟩
    rw [if_neg Bool.false_ne_true]
    exact c _ _ _ _ q3 (t1.trans (t2.trans t3)) s3 (.bl _)
  · exact q3.elim
theorem le_chn {op op' : CmpOp} (ho : CmpOk X op) (ho' : CmpOk X op') (hm : lastMarks [op, op'] [b, d] = false) (ha : LE X a ta) (hb : LE X b tb) (hd : LE X d td) : LE X (.Compare a [op, op'] [b, d] pos) (chnP op op' ta tb td) := by
  obtain ⟨r, h1, h2⟩ := ho
  obtain ⟨r', h3, h4⟩ := ho'
  exact peW (pe_chain h1 h3 ha hb hd hm) fun σ H Q h => l3 h2 h4 h
theorem lt_chn {op op' : CmpOp} (ho : CmpOk X op) (ho' : CmpOk X op') (hm : lastMarks [op, op'] [b, d] = false) (ha : LE X a ta) (hb : LE X b tb) (hd : LE X d td) : LT X (.Compare a [op, op'] [b, d] pos) (fun ρ S Q => chnP op op' ta tb td ρ S (truQ Q)) := by
  obtain ⟨r, h1, h2⟩ := ho
  obtain ⟨r', h3, h4⟩ := ho'
  refine ptW (pt_chain h1 h3 ha hb hd hm) fun σ H Q h => ?_
  obtain ⟨ρ, S, Q0, re, rs, h, c⟩ := h
  -- only truth values come
  have h' : chnP op op' ta tb td ρ S (fun x S => match x with | .bl k => Q0 k S | _ => False) := by
    unfold chnP at h ⊢
    exact h
  exact l3 h2 h4 ⟨ρ, S, _, re, rs, h', fun x S1 H1 v q t1 s1 r1 => by
    split at q
    · cases r1; exact ⟨_, rfl, c _ _ _ q t1 s1⟩
    · exact q.elim⟩
end
end PL

set_option Elab.async false
set_option linter.all false
set_option maxRecDepth 100000
set_option maxHeartbeats 4000000
/-! Arguments, displays, calls, comprehensions, statements. -/
namespace PL
open PySem PySem.Spec L2
section
open PyProof.Rows
theorem adj_rev (n : Nat) : Builtin.Slice.sliceAdjust none none (-1) (n : Int) = ((n : Int) - 1, -1) := by
  unfold Builtin.Slice.sliceAdjust
  simp
theorem pl_rev (n : Nat) : Builtin.Slice.slicePlaces ((n : Int) - 1) (-1) (-1) = n := by
  unfold Builtin.Slice.slicePlaces
  rw [if_neg (by omega)]
  split
  · simp
  · omega
theorem fm_congr {α β : Type} {f g : α → Option β} : ∀ {l : List α}, (∀ a ∈ l, f a = g a) → l.filterMap f = l.filterMap g
  | [], _ => rfl
  | a :: l, h => by rw [List.filterMap_cons, List.filterMap_cons, h a List.mem_cons_self, fm_congr fun b hb => h b (List.mem_cons_of_mem _ hb)]
theorem pick_rev (xs : Array Value) : ((List.range xs.size).filterMap fun (m : Nat) => xs[(((xs.size : Int) - 1) + (m : Int) * (-1)).toNat]?).toArray = xs.toList.reverse.toArray := by
  have e : ((List.range xs.size).filterMap fun (m : Nat) => xs[(((xs.size : Int) - 1) + (m : Int) * (-1)).toNat]?) = ((List.range xs.size).map fun m => xs.size - 1 - m).filterMap (xs[·]?) := by
    rw [List.filterMap_map]
    refine fm_congr fun m hm => ?_
    have := List.mem_range.mp hm
    have e2 : (((xs.size : Int) - 1) + (m : Int) * (-1)).toNat = xs.size - 1 - m := by omega
    rw [e2]; rfl
  rw [e, PySem.W.krv_range, List.filterMap_reverse, PySem.W.krv_all]
section
variable {prog : Program} {w : World} {A : Around} {E : Value → Shared → Prop} {s : Shared}
theorem sa_rev {sl : Addr} {vl vu vs : Value} {n : Nat} {Q : Int × Int × Nat → Shared → Prop} (hs : s.heap.IsSliceOf sl vl vu vs) (pl : IsPart vl none) (pu : IsPart vu none) (ps : IsPart vs (some (-1)))
    (h : Q ((n : Int) - 1, -1, n) s) : wpAny (model prog w) A (Builtin.Slice.sliceApplied (.ref sl) (pure (n : Int))) Q E s := by
  obtain ⟨o, ho, hk, hf⟩ := id hs
  unfold Builtin.Slice.sliceApplied Builtin.Slice.sliceFields
  refine wpAny_bind (wpAny_bind (wpAny_field ho hf (x := vl) rfl (wpAny_bind (wpAny_field ho hf (x := vu) rfl (wpAny_bind (wpAny_field ho hf (x := vs) rfl (wpAny_pure ?_)))))))
  refine wpAny_bind (HT.slicePart_ ps ?_)
  show wpAny _ _ (if ((-1 : Int) == 0) = true then _ else _) _ _ s
  rw [if_neg (by decide)]
  refine wpAny_bind (HT.slicePart_ pl (wpAny_bind (HT.slicePart_ pu (wpAny_bind (wpAny_pure ?_)))))
  show wpAny _ _ (match Builtin.Slice.sliceAdjust none none (-1) (n : Int) with | (lo, hi) => pure (lo, (-1 : Int), Builtin.Slice.slicePlaces lo hi (-1))) _ _ s
  rw [adj_rev]
  show wpAny _ _ (pure (((n : Int) - 1), (-1 : Int), Builtin.Slice.slicePlaces ((n : Int) - 1) (-1) (-1))) _ _ s
  rw [pl_rev]
  exact wpAny_pure h
theorem gi_rev {t sl : Addr} {its : Array Value} {vl vu vs : Value} {Q : Value → Shared → Prop} (ht : IsTup s.heap t its) (hs : s.heap.IsSliceOf sl vl vu vs) (pl : IsPart vl none) (pu : IsPart vu none) (ps : IsPart vs (some (-1)))
    (h : Q (.ref s.heap.objs.size) { s with heap := s.heap.push { cls := .type "tuple", data := .seq its.toList.reverse.toArray } }) (hz : its.size ≤ sizeLine) : wpAny (model prog w) A (getItem (.ref t) (.ref sl)) Q E s := by
  have hok : sizeOk (.seq its.toList.reverse.toArray) := by
    show its.toList.reverse.toArray.size ≤ sizeLine
    simpa using hz
  obtain ⟨o, ho, hk, hf⟩ := id hs
  have hT : s.TypeIs (.ref sl) "slice" := ⟨o, ho, hk⟩
  unfold getItem
  try with_reducible refine wpAny_holding ?_
  first | refine wpAny_bind (wpAny_pure ?_) | skip
  refine wpAny_bind (wpAny_sequenceKey ht.typeIs (by decide) ?_)
  refine wpAny_bind (wpAny_callSpecial?_slot (name := Str.ofString "__getitem__") ht.typeIs PyProof.Rows.slot_tuple_getitem (wpAny_call_entry PyProof.Rows.slot_tuple_getitem ht.typeIs PyProof.Rows.entry_tuple_getitem ?_ (PyProof.Rows.args_tuple_getitem _ _)))
  show wpAny _ _ (Builtin.Tuple.tupleItemsOf (.ref t) >>= _) _ _ s
  refine wpAny_bind (tupleItemsOf_ ht ?_)
  refine wpAny_bind (wpAny_typeOf hT ?_)
  rw [if_pos (by decide)]
  refine wpAny_bind (sa_rev hs pl pu ps ?_)
  show wpAny _ _ (if (((its.size : Int) - 1) == 0 && (-1 : Int) == 1 && its.size == its.size) = true then _ else _) _ _ s
  have hno : ¬ ((((its.size : Int) - 1) == 0 && (-1 : Int) == 1 && its.size == its.size) = true) := by
    intro q
    rw [Bool.and_eq_true, Bool.and_eq_true] at q
    exact absurd q.1.2 (by decide)
  rw [if_neg hno, pick_rev]
  first
    | exact wpAny_bind (m := Builtin.Tuple.tupleExact _) (wpAny_newObj_type (wpAny_pure ⟨_, rfl, wpAny_pure h⟩) hok)
    | exact wpAny_bind (m := Builtin.Tuple.tupleExact _) (wpAny_newObj_type (wpAny_bind (wpAny_pure (wpAny_pure ⟨_, rfl, wpAny_pure h⟩))) hok)
    | exact wpAny_bind (wpAny_bind (m := Builtin.Tuple.tupleExact _) (wpAny_newObj_type (wpAny_pure ⟨_, rfl, wpAny_pure h⟩) hok))
end
section
variable {X : Cx} {a : Expr} {te : TE}
def tRevS (K : PySem.W.Frag) (te : TE) : TE := fun σ H Q => te σ H fun x H1 => ∃ a xs, x = .ref a ∧ ((SqL K H1 a xs ∧ ∀ p, H1 p = none → Q (.ref p) (upd H1 p (.lst xs.reverse))) ∨ (SqT K H1 a xs ∧ ∀ p, H1 p = none → Q (.ref p) (upd H1 p (.tup xs.reverse))))
theorem pe_revS {k : Nat} {p1 p2 p3 pos : Pos} (ha : PE X a te) : PE X (.Subscript a (.Slice none none (some (.UnaryOp .USub (.Constant (.int 1) k p1) p2)) p3) pos) (tRevS X.K te) := by
  refine ⟨fun pins s σ H Q I h => Subscript_ (thn (ha.run pins s σ H _ I h) fun v s1 ⟨x, H1, I1, r1, q1⟩ => ?_)⟩
  obtain ⟨b, xs, rfl, q1⟩ := q1
  cases r1
  have hst : L2.PO X (some (.UnaryOp .USub (.Constant (.int 1) k p1) p2)) (tPart (tUn (rU fun i => .int (-i)) (tC (.int 1)))) := po_some (pe_un un_neg pe_int)
  refine wpAny_Slice (thn (po_none.run pins s1 σ H1 (fun o H2 => o = none ∧ H2 = H1) I1 ⟨rfl, rfl⟩) fun vl s2 ⟨l, H2, I2, pl, el, e2⟩ => ?_)
  subst el e2
  refine thn (po_none.run pins s2 σ H2 (fun o H3 => o = none ∧ H3 = H2) I2 ⟨rfl, rfl⟩) fun vu s3 ⟨u, H3, I3, pu, eu, e3⟩ => ?_
  subst eu e3
  refine thn (hst.run pins s3 σ H3 (fun o H4 => o = some (-1) ∧ H4 = H3) I3 ⟨1, rfl, -1, rfl, rfl, rfl⟩) fun vs s4 ⟨o, H4, I4, ps, eo, e4⟩ => ?_
  subst eo e4
  have I5 : Inv X pins σ H4 { s4 with heap := s4.heap.push { cls := .type "slice", data := .fields #[vl, vu, vs] } } := I4.kept (t' := s4.toks) fun b ob q => Heap.get?_push_of_some _ q
  show wpAny (model X.prog X.w) X.A (subscriptTail a (.Slice none none (some (.UnaryOp .USub (.Constant (.int 1) k p1) p2)) p3) (.ref b) (.ref s4.heap.objs.size)) (EP X pins σ Q) X.xe { s4 with heap := s4.heap.push { cls := .type "slice", data := .fields #[vl, vu, vs] } }
  rcases q1 with ⟨hb, q⟩ | ⟨hb, q⟩
  · obtain ⟨its, r, ht, hz⟩ := I5.list hb
    have hlen := r.length
    refine tail_any (ops := [.ref b, .ref s4.heap.objs.size]) ht.isList.typeIs (PySem.slot_list_getitem.lookup) ?_ (by with_unfolding_all rfl)
    refine wpAny_getItem_list_slice ht.isList (Heap.IsSliceOf.new _ vl vu vs) pl pu ps (by decide) ?_ (by rw [List.size_toArray]; omega)
    rw [PySem.W.krv_pick]
    refine ⟨.ref _, _, I5.laid (t' := s4.toks) (o := .lst xs.reverse) (fun b ob q => Heap.get?_push_of_some _ q) (Nat.le_refl _) ?_, rfl, q _ (I5.hok.fresh (Nat.le_refl _))⟩
    exact ⟨by rw [List.length_reverse]; exact hz, _, 0, r.reverse, Heap.get?_push_size _ rfl⟩
  · obtain ⟨its, r, ht, hz⟩ := I5.tuple hb
    have hlen : its.toArray.size = xs.length := by rw [List.size_toArray]; exact r.length.symm
    refine tail_any (ops := [.ref b, .ref s4.heap.objs.size]) ht.typeIs PyProof.Rows.slot_tuple_getitem.lookup ?_ (by with_unfolding_all rfl)
    refine gi_rev ht (Heap.IsSliceOf.new _ vl vu vs) pl pu ps ?_ (by rw [hlen]; exact hz)
    refine ⟨.ref _, _, I5.laid (t' := s4.toks) (o := .tup xs.reverse) (fun b ob q => Heap.get?_push_of_some _ q) (Nat.le_refl _) ?_, rfl, q _ (I5.hok.fresh (Nat.le_refl _))⟩
    exact ⟨by rw [List.length_reverse]; exact hz, _, r.reverse, IsTup.new _ _⟩
end
end
section
variable {X : Cx} {a b d : Expr} {es : List Expr} {pos : Pos} {ta tb td : PTE} {t : PTA}
/-! ### and, or -/
def sB (op : BoolOp) (ta tb : PTE) : PTE := fun ρ S Q => ta ρ S fun x S1 => match truP x S1 with
    | some k => if k = (op == .And) then tb ρ S1 Q else Q x S1
    | none => False
theorem le_and {rest : List Expr} (ha : LE X a ta) (hb : LE X (.BoolOp .And (b :: rest) pos) tb) : LE X (.BoolOp .And (a :: b :: rest) pos) (sB .And ta tb) := by
  refine peW (pe_andT ha hb) fun σ H Q h => ?_
  obtain ⟨ρ, S, Q0, re, rs, h, c⟩ := h
  refine ⟨ρ, S, _, re, rs, h, fun x S1 H1 v q t1 s1 r1 => ?_⟩
  split at q
  · rename_i k e
    refine ⟨k, tru_of s1 r1 e, ?_⟩
    cases k with
    | true => rw [if_pos (by decide)] at q; rw [if_pos rfl]; exact ⟨ρ, S1, Q0, re.mono t1, s1, q, c.mono t1⟩
    | false => rw [if_neg (by decide)] at q; rw [if_neg Bool.false_ne_true]; exact (c.mono t1).here q s1 r1
  · exact q.elim
theorem le_or {rest : List Expr} (ha : LE X a ta) (hb : LE X (.BoolOp .Or (b :: rest) pos) tb) : LE X (.BoolOp .Or (a :: b :: rest) pos) (sB .Or ta tb) := by
  refine peW (pe_orT ha hb) fun σ H Q h => ?_
  obtain ⟨ρ, S, Q0, re, rs, h, c⟩ := h
  refine ⟨ρ, S, _, re, rs, h, fun x S1 H1 v q t1 s1 r1 => ?_⟩
  split at q
  · rename_i k e
    refine ⟨k, tru_of s1 r1 e, ?_⟩
    cases k with
    | true => rw [if_neg (by decide)] at q; rw [if_pos rfl]; exact (c.mono t1).here q s1 r1
    | false => rw [if_pos (by decide)] at q; rw [if_neg Bool.false_ne_true]; exact ⟨ρ, S1, Q0, re.mono t1, s1, q, c.mono t1⟩
  · exact q.elim
theorem lw_and {rest : List Expr} (ha : LT X a (fun ρ S Q => ta ρ S (truQ Q))) (hb : LW X (.BoolOp .And (b :: rest) pos) (fun ρ S Q => tb ρ S (truQ Q))) : LW X (.BoolOp .And (a :: b :: rest) pos) (fun ρ S Q => sB .And ta tb ρ S (truQ Q)) := by
  refine pwW (pw_and ha hb) fun σ H Q h => ?_
  obtain ⟨ρ, S, Q0, re, rs, h, c⟩ := h
  have e : (fun (x : PV) (S1 : Sto) => match truP x S1 with
    | some k => if k = (BoolOp.And == .And) then tb ρ S1 (truQ Q0) else truQ Q0 x S1
    | none => False) = truQ (fun k S1 => if k = true then tb ρ S1 (truQ Q0) else Q0 false S1) := by
    funext x S1
    unfold truQ
    cases e : truP x S1 with
    | none => rfl
    | some k => cases k <;> simp
  unfold sB at h
  rw [e] at h
  refine ⟨ρ, S, _, re, rs, h, fun k S1 H1 q t1 s1 => ?_⟩
  cases k with
  | true => exact ⟨ρ, S1, Q0, re.mono t1, s1, q, c.mono t1⟩
  | false => exact c _ _ _ q t1 s1
theorem lw_or {rest : List Expr} (ha : LT X a (fun ρ S Q => ta ρ S (truQ Q))) (hb : LW X (.BoolOp .Or (b :: rest) pos) (fun ρ S Q => tb ρ S (truQ Q))) : LW X (.BoolOp .Or (a :: b :: rest) pos) (fun ρ S Q => sB .Or ta tb ρ S (truQ Q)) := by
  refine pwW (pw_or ha hb) fun σ H Q h => ?_
  obtain ⟨ρ, S, Q0, re, rs, h, c⟩ := h
  have e : (fun (x : PV) (S1 : Sto) => match truP x S1 with
    | some k => if k = (BoolOp.Or == .And) then tb ρ S1 (truQ Q0) else truQ Q0 x S1
    | none => False) = truQ (fun k S1 => if k = true then Q0 true S1 else tb ρ S1 (truQ Q0)) := by
    funext x S1
    unfold truQ
    cases e : truP x S1 with
    | none => rfl
    | some k => cases k <;> simp <;> decide
  unfold sB at h
  rw [e] at h
  refine ⟨ρ, S, _, re, rs, h, fun k S1 H1 q t1 s1 => ?_⟩
  cases k with
  | true => exact c _ _ _ q t1 s1
  | false => exact ⟨ρ, S1, Q0, re.mono t1, s1, q, c.mono t1⟩
/-! ### argument lists, displays -/
theorem la_nil : LA X [] (fun _ S Q => Q [] S) := by
  refine paW pa_nil fun σ H Q h => ?_
  obtain ⟨ρ, S, Q0, re, rs, h, c⟩ := h
  exact c _ S H _ h (TExt.refl _ _) rs .nil
theorem la_cons (ha : LE X a ta) (hr : LA X es t) (hs : starEach (a :: es) X.env = (false, eval a X.env) :: starEach es X.env) : LA X (a :: es) (fun ρ S Q => ta ρ S fun x S1 => t ρ S1 fun xs S2 => Q (x :: xs) S2) := by
  refine paW (pa_cons ha hr hs) fun σ H Q h => ?_
  obtain ⟨ρ, S, Q0, re, rs, h, c⟩ := h
  refine ⟨ρ, S, _, re, rs, h, fun x S1 H1 v q t1 s1 r1 => ?_⟩
  refine ⟨ρ, S1, _, re.mono t1, s1, q, fun xs S2 H2 vs q2 t2 s2 r2 => ?_⟩
  exact c _ _ _ _ q2 (t1.trans t2) s2 (.cons (r1.mono t2) r2)
theorem le_tup {k : Nat} (h : LA X es t) : LE X (.Tuple es k pos) (fun ρ S Q => t ρ S fun xs S1 => xs.length ≤ sizeLine ∧ Q (.tup xs) S1) := by
  refine peW (pe_tup h) fun σ H Q h => ?_
  obtain ⟨ρ, S, Q0, re, rs, h, c⟩ := h
  refine ⟨ρ, S, _, re, rs, h, fun xs S1 H1 vs q t1 s1 r1 => ?_⟩
  exact ⟨by rw [← r1.length]; exact q.1, fun p hp => (c.mono t1).newT q.2 s1 r1 hp⟩
theorem le_lst (h : LA X es t) : LE X (.List es pos) (fun ρ S Q => t ρ S fun xs S1 => xs.length ≤ sizeLine ∧ ∀ p, S1 p = none → Q (.ref p) (updS S1 p (.lst xs))) := by
  refine peW (pe_lst h) fun σ H Q h => ?_
  obtain ⟨ρ, S, Q0, re, rs, h, c⟩ := h
  refine ⟨ρ, S, _, re, rs, h, fun xs S1 H1 vs q t1 s1 r1 => ?_⟩
  exact ⟨by rw [← r1.length]; exact q.1, fun p hp => (c.mono t1).newL q.2 s1 r1 hp⟩
theorem le_lstF (h : LA X es t) : LE X (.List es pos) (fun ρ S Q => t ρ S fun xs S1 => xs.length ≤ sizeLine ∧ Q (.rol xs) S1) := by
  refine peW (pe_lck (pe_lst h)) fun σ H Q h => ?_
  obtain ⟨ρ, S, Q0, re, rs, h, c⟩ := h
  exact ⟨ρ, S, _, re, rs, h, fun xs S1 H1 vs q t1 s1 r1 => ⟨by rw [← r1.length]; exact q.1, fun p hp => (c.mono t1).newF q.2 s1 r1 hp⟩⟩
theorem le_frz (ha : LE X a ta) : LE X a (fun ρ S Q => ta ρ S fun x S1 => frzP x S1 Q) := by
  refine peW (pe_lck ha) fun σ H Q h => ?_
  obtain ⟨ρ, S, Q0, re, rs, h, c⟩ := h
  refine ⟨ρ, S, _, re, rs, h, fun x S1 H1 v q t1 s1 r1 => ?_⟩
  unfold frzP at q
  split at q
  · cases r1
    split at q
    · rename_i xs e
      exact (c.mono t1).frzL q s1 e
    · rename_i kvs e
      exact (c.mono t1).frzD q s1 e
    · exact q.elim
  · exact .inl (c _ _ _ _ q t1 s1 r1)
theorem le_gc (ha : LE X a ta) : LE X a (fun ρ S Q => ta ρ S fun x S1 => ∃ S2, SubS S2 S1 ∧ Q x S2) := by
  refine peW ha fun σ H Q h => ?_
  obtain ⟨ρ, S, Q0, re, rs, h, c⟩ := h
  exact ⟨ρ, S, _, re, rs, h, fun x S1 H1 v ⟨S2, q1, q2⟩ t1 s1 r1 => c _ _ _ _ q2 t1 (s1.sub q1) r1⟩
theorem le_dicK : LE X (.Dict [] [] pos) (fun _ S Q => ∀ p, S p = none → Q (.ref p) (updS S p (.dK []))) := by
  refine peW pe_dnewK fun σ H Q h => ?_
  obtain ⟨ρ, S, Q0, re, rs, h, c⟩ := h
  intro p hp
  exact c (.ref p) _ _ _ (h p (rs.free hp)) (TExt.new hp) (rs.new hp ⟨[], upd_same, rfl, .nil⟩) (.ref p)
theorem le_dicT : LE X (.Dict [] [] pos) (fun _ S Q => ∀ p, S p = none → Q (.ref p) (updS S p (.dT []))) := by
  refine peW pe_dnewT fun σ H Q h => ?_
  obtain ⟨ρ, S, Q0, re, rs, h, c⟩ := h
  intro p hp
  exact c (.ref p) _ _ _ (h p (rs.free hp)) (TExt.new hp) (rs.new hp ⟨[], upd_same, rfl, .nil⟩) (.ref p)
/-! ### calls -/
/-- a promise in pure words: n arguments -/
def liSp (K : Fr8) (n : Nat) (Φ : Con) : Sp := fun vs H Q _ => vs.length = n ∧ ∃ xs S Q0, RepVs K H xs vs ∧ RepS K S H ∧ Φ xs S Q0 ∧ ClE K H Q0 Q
structure FnG (P : Program) (w : World) (K : Fr8) (mg : Str → Option Value) (base : Heap) (A : Around) (x : Str) (n : Nat) (Φ : Con) : Prop where
  ex : ∃ (f : Addr) (fd : FuncData) (ps : List Str) (k : Nat), mg x = some (.ref f) ∧ PySem.W.keepIn K (.ref f) = true ∧ FnOk P w K mg base CX0 k f fd ps (liSp K n Φ) ∧ Binds K fd ps [] ∧ Room k A
theorem le_call {x : Str} {p : Pos} {n : Nat} {Φ : Con} (F : FnG X.prog X.w X.K X.mg X.base X.A x n Φ) (hn : ∀ xs S Q, Φ xs S Q → xs.length = n) (hg : Gl X x) (hdb : (x == ("__debug__" : Str)) = false) (ha : LA X (a :: es) t)
    (he : starEach (a :: es) X.env = (false, eval a X.env) :: starEach es X.env) (hpl : ∀ pos, (backTo pos (starEach es X.env)).any (·.1) = false) : LE X (.Call (.Name x p) (a :: es) [] pos) (fun ρ S Q => t ρ S fun xs S1 => Φ xs S1 Q) := by
  obtain ⟨f, fd, ps, k, hm, hk, G, hb, hr⟩ := F.ex
  refine peW (pe_call (E := E0) G hr hg hm hk hb .nil pass0 ha hdb he (hpl _)) fun σ H Q h => ?_
  obtain ⟨ρ, S, Q0, re, rs, h, c⟩ := h
  refine ⟨ρ, S, _, re, rs, h, fun xs S1 H1 vs q t1 s1 r1 => ?_⟩
  show liSp X.K n Φ (vs ++ []) H1 Q E0
  rw [List.append_nil]
  exact ⟨by rw [← r1.length]; exact hn _ _ _ q, xs, S1, Q0, r1, s1, q, c.mono t1⟩
theorem le_call0 {x : Str} {p : Pos} {n : Nat} {Φ : Con} (F : FnG X.prog X.w X.K X.mg X.base X.A x n Φ) (hn : ∀ xs S Q, Φ xs S Q → xs.length = n) (hg : Gl X x) (hdb : (x == ("__debug__" : Str)) = false) : LE X (.Call (.Name x p) [] [] pos) (fun ρ S Q => Φ [] S Q) := by
  obtain ⟨f, fd, ps, k, hm, hk, G, hb, hr⟩ := F.ex
  refine peW (pe_call0 (E := E0) G hr hg hm hk hb .nil pass0 hdb) fun σ H Q h => ?_
  obtain ⟨ρ, S, Q0, re, rs, h, c⟩ := h
  exact ⟨hn _ _ _ h, [], S, Q0, .nil, rs, h, c⟩
def Bf.name : Bf → Str
  | .tuple => "tuple" | .list => "list" | .int => "int" | .len => "len" | .abs => "abs" | .max1 => "max" | .max2 => "max" | .min1 => "min" | .min2 => "min"
  | .sum => "sum" | .all => "all" | .any => "any" | .sorted => "sorted"
theorem bf_boot : ∀ f : Bf, bootBuiltins f.name = some f.val := by
  intro f; cases f <;> decide +kernel
theorem bf_nm : ∀ f : Bf, f.name ≠ "__name__" ∧ (f.name == ("__debug__" : Str)) = false := by
  intro f; cases f <;> decide +kernel
theorem bf_call {f : Bf} {r : List V → Hp → VK → Prop} {p : Pos} {tr : TA} (hr : CallR X f.val r) (hg : Gl X f.name) (hm : X.mg f.name = none) (ha : PA X (a :: es) tr)
    (he : starEach (a :: es) X.env = (false, eval a X.env) :: starEach es X.env) (hpl : ∀ pos, (backTo pos (starEach es X.env)).any (·.1) = false) : PE X (.Call (.Name f.name p) (a :: es) [] pos) (tCB r tr) := by
  have h1 := bf_boot f
  have h2 := bf_nm f
  cases f <;> first
    | exact pe_callB hr hg hm h1 ha h2.1 h2.2 he (hpl _)
    | exact pe_callTy hr hg hm h1 ha h2.1 h2.2 he (hpl _)
theorem le_blt {f : Bf} {p : Pos} (hf : BltOk X f) (hg : Gl X f.name) (hm : X.mg f.name = none) (ha : LA X (a :: es) t) (he : starEach (a :: es) X.env = (false, eval a X.env) :: starEach es X.env)
    (hpl : ∀ pos, (backTo pos (starEach es X.env)).any (·.1) = false) : LE X (.Call (.Name f.name p) (a :: es) [] pos) (fun ρ S Q => t ρ S fun xs S1 => bltP f xs S1 Q) := by
  obtain ⟨r, h1, h2⟩ := hf
  refine peW (bf_call h1 hg hm ha he hpl) fun σ H Q h => ?_
  obtain ⟨ρ, S, Q0, re, rs, h, c⟩ := h
  refine ⟨ρ, S, _, re, rs, h, fun xs S1 H1 vs q t1 s1 r1 => ?_⟩
  exact h2 H1 S1 xs vs Q0 Q s1 r1 q (c.mono t1)
theorem le_bltF {f : Bf} {p : Pos} (hf : BltFOk X f) (hg : Gl X f.name) (hm : X.mg f.name = none) (ha : LA X (a :: es) t) (he : starEach (a :: es) X.env = (false, eval a X.env) :: starEach es X.env)
    (hpl : ∀ pos, (backTo pos (starEach es X.env)).any (·.1) = false) : LE X (.Call (.Name f.name p) (a :: es) [] pos) (fun ρ S Q => t ρ S fun xs S1 => bltFP f xs S1 Q) := by
  obtain ⟨r, h1, h2⟩ := hf
  refine peW (bf_call h1 hg hm ha he hpl) fun σ H Q h => ?_
  obtain ⟨ρ, S, Q0, re, rs, h, c⟩ := h
  refine ⟨ρ, S, _, re, rs, h, fun xs S1 H1 vs q t1 s1 r1 => ?_⟩
  exact h2 H1 S1 xs vs Q0 Q s1 r1 q (c.mono t1)
def Ty.st : Ty → Str
  | .int => "int" | .bool => "bool" | .str => "str" | .tuple => "tuple" | .list => "list" | .dict => "dict"
theorem ty_boot : ∀ T : Ty, bootBuiltins T.st = some (.type T.name) := by
  intro T; cases T <;> decide +kernel
theorem ty_nm : ∀ T : Ty, T.st ≠ "__name__" ∧ (T.st == ("__debug__" : Str)) = false := by
  intro T; cases T <;> decide +kernel
theorem kit_isTy : ∀ (t : String) (T : Ty), t ∈ ["NoneType", "bool", "int", "str", "tuple", "list", "dict"] → kitB t T.name = some (isTy t T) := by
  intro t T h
  simp only [List.mem_cons, List.not_mem_nil, or_false] at h
  rcases h with rfl | rfl | rfl | rfl | rfl | rfl | rfl <;> cases T <;> decide +kernel
theorem tyx_of {S : Sto} {H : Hp} {x : PV} {v : V} {t : String} (s : RepS X.K S H) (r : RepV X.K H x v) (h : tyOf x S = some t) : TyX X.K H v (.type t) ∧ t ∈ ["NoneType", "bool", "int", "str", "tuple", "list", "dict"] := by
  cases r with
  | non => simp [tyOf] at h; subst h; exact ⟨.base .non, by decide⟩
  | bl b => simp [tyOf] at h; subst h; exact ⟨.base (.bl _), by decide⟩
  | int b => simp [tyOf] at h; subst h; exact ⟨.base (.int _), by decide⟩
  | str b => simp [tyOf] at h; subst h; exact ⟨.base (.str _), by decide⟩
  | tup h1 h2 =>
    simp [tyOf] at h; subst h
    refine ⟨?_, by decide⟩
    rcases h1 with (e | ⟨o, e⟩) | ⟨o, its, n, e, k, _⟩
    · exact .base (.tup e)
    · exact .fTuple e
    · exact .kTuple e k
  | rol h1 h2 =>
    simp [tyOf] at h; subst h
    refine ⟨?_, by decide⟩
    rcases h1 with ⟨o, e⟩ | ⟨o, its, n, e, k, _⟩
    · exact .base (.frz e)
    · exact .kList e k
  | dic _ _ _ => simp [tyOf] at h
  | ref a =>
    simp only [tyOf] at h
    split at h
    · rename_i xs e; cases h; obtain ⟨vs, h1, _⟩ := s.lst e; exact ⟨.base (.lst h1), by decide⟩
    · rename_i xs e; cases h; obtain ⟨vs, h1, _⟩ := s a _ e; exact ⟨.base (.dK h1), by decide⟩
    · rename_i xs e; cases h; obtain ⟨vs, h1, _⟩ := s a _ e; exact ⟨.base (.dT h1), by decide⟩
    · cases h
theorem le_isi {T : Ty} {p p2 : Pos} (hg : Gl X "isinstance") (hm : X.mg "isinstance" = none) (hg2 : Gl X T.st) (hm2 : X.mg T.st = none) (ha : LE X a ta)
    (he : starEach (a :: [.Name T.st p2]) X.env = (false, eval a X.env) :: starEach [.Name T.st p2] X.env) : LE X (.Call (.Name "isinstance" p) [a, .Name T.st p2] [] pos) (fun ρ S Q => ta ρ S fun x S1 => isiP T x S1 Q) := by
  have hT : PE X (.Name T.st p2) (tC (.ty T.name)) := pe_bltn hg2 hm2 (ty_boot T) rfl (ty_nm T).1 (ty_nm T).2
  have hA : PA X [a, .Name T.st p2] (tCons (liE X.K ta) (tCons (tC (.ty T.name)) tNil)) := pa_cons ha (pa_cons hT pa_nil rfl) he
  refine peW (pe_callB call_isi hg hm (by decide +kernel) hA (by decide +kernel) (by decide +kernel) he rfl) fun σ H Q h => ?_
  obtain ⟨ρ, S, Q0, re, rs, h, c⟩ := h
  refine ⟨ρ, S, _, re, rs, h, fun x S1 H1 v q t1 s1 r1 => ?_⟩
  unfold isiP at q
  split at q
  · rename_i t e
    obtain ⟨h1, h2⟩ := tyx_of s1 r1 e
    exact ⟨v, _, _, _, _, rfl, .ty _, h1, kit_ty (kit_isTy t T h2), (c.mono t1).here q s1 (.bl _)⟩
  · exact q.elim
/-! ### slices -/
abbrev PTO := Nv → Sto → (Option Int → Sto → Prop) → Prop
def liO (K : Fr8) (t : PTO) : TO := fun σ H Q => ∃ ρ S Q0, RepE K H ρ σ ∧ RepS K S H ∧ t ρ S Q0 ∧ ∀ o S' H', Q0 o S' → TExt K H H' → RepS K S' H' → Q o H'
theorem poW {e : Option Expr} {t t' : TO} (h : L2.PO X e t) (w : ∀ σ H Q, t' σ H Q → t σ H Q) : L2.PO X e t' := ⟨fun pins s σ H Q I q => h.run pins s σ H Q I (w _ _ _ q)⟩
theorem lo_none : L2.PO X none (liO X.K fun _ S Q => Q none S) := by
  refine poW po_none fun σ H Q h => ?_
  obtain ⟨ρ, S, Q0, re, rs, h, c⟩ := h
  exact c none S H h (TExt.refl _ _) rs
theorem lo_some (ha : LE X a ta) : L2.PO X (some a) (liO X.K fun ρ S Q => ta ρ S fun x S1 => match x with
    | .int i => Q (some i) S1
    | _ => False) := by
  refine poW (po_some ha) fun σ H Q h => ?_
  obtain ⟨ρ, S, Q0, re, rs, h, c⟩ := h
  refine ⟨ρ, S, _, re, rs, h, fun x S1 H1 v q t1 s1 r1 => ?_⟩
  split at q
  · cases r1; exact ⟨_, rfl, c _ _ _ q t1 s1⟩
  · exact q.elim
theorem le_sl {lo hi : Option Expr} {tl th : PTO} {p2 : Pos} (ha : LE X a ta) (hl : L2.PO X lo (liO X.K tl)) (hh : L2.PO X hi (liO X.K th)) :
    LE X (.Subscript a (.Slice lo hi none p2) pos) (fun ρ S Q => ta ρ S fun x S1 => tl ρ S1 fun l S2 => th ρ S2 fun h S3 => slP x l h S3 Q) := by
  obtain ⟨r, h1, h2⟩ := sl_ok (X := X)
  refine peW (pe_slice h1 ha hl hh) fun σ H Q h => ?_
  obtain ⟨ρ, S, Q0, re, rs, h, c⟩ := h
  refine ⟨ρ, S, _, re, rs, h, fun x S1 H1 v q t1 s1 r1 => ?_⟩
  refine ⟨ρ, S1, _, re.mono t1, s1, q, fun l S2 H2 q2 t2 s2 => ?_⟩
  refine ⟨ρ, S2, _, re.mono (t1.trans t2), s2, q2, fun u S3 H3 q3 t3 s3 => ?_⟩
  exact h2 H3 S3 x v l u Q0 Q s3 (r1.mono (t2.trans t3)) q3 (c.mono (t1.trans (t2.trans t3)))
/-! ### methods of lists -/
theorem le_slF {lo hi : Option Expr} {tl th : PTO} {p2 : Pos} (ha : LE X a ta) (hl : L2.PO X lo (liO X.K tl)) (hh : L2.PO X hi (liO X.K th)) :
    LE X (.Subscript a (.Slice lo hi none p2) pos) (fun ρ S Q => ta ρ S fun x S1 => tl ρ S1 fun l S2 => th ρ S2 fun h S3 => slFP x l h S3 Q) := by
  obtain ⟨r, h1, h2⟩ := slF_ok (X := X)
  refine peW (pe_slice h1 ha hl hh) fun σ H Q h => ?_
  obtain ⟨ρ, S, Q0, re, rs, h, c⟩ := h
  refine ⟨ρ, S, _, re, rs, h, fun x S1 H1 v q t1 s1 r1 => ?_⟩
  refine ⟨ρ, S1, _, re.mono t1, s1, q, fun l S2 H2 q2 t2 s2 => ?_⟩
  refine ⟨ρ, S2, _, re.mono (t1.trans t2), s2, q2, fun u S3 H3 q3 t3 s3 => ?_⟩
  exact h2 H3 S3 x v l u Q0 Q s3 (r1.mono (t2.trans t3)) q3 (c.mono (t1.trans (t2.trans t3)))
/-! ### methods of lists -/
def Mt.str : Mt → Str
  | .append => "append" | .extend => "extend" | .pop => "pop" | .popAt => "pop"
theorem bm_of {m : Mt} {r : V → List V → Hp → VK → Prop} {apos : Pos} {to : TE} {tr : TA} (hr : MtR X m.nm r) (ho : PE X d to) (ha : PA X (a :: es) tr) (hne : m ≠ .pop)
    (hbase : attributeBase d m.str X.env (eval d X.env) = eval d X.env)
    (hfew : ((backTo pos (starEach (a :: es) X.env)).all (fun x => !x.1) && (backToKw pos (keywordEach [] X.env)).all (fun x => x.1.isSome) && decide ((a :: es).length + ([] : List Keyword).length + (if ([] : List Keyword).isEmpty then 0 else 1) < 30)) = true)
    (hline : (apos.endLine == pos.line) = true) (h1 : starEach (a :: es) X.env = (false, eval a X.env) :: starEach es X.env) (h2 : (backTo pos (starEach es X.env)).any (·.1) = false) :
    PE X (.Call (.Attribute d m.str apos) (a :: es) [] pos) (fun σ H Q => to σ H fun x H1 => tyV X.K "list" x H1 ∧ tr σ H1 fun xs H2 => r x xs H2 Q) := by
  cases m with
  | append => exact pe_bm PySem.F.plainAttrs_list PySem.F.slot_list_append PySem.F.type_list_append hr ho ha hbase hfew hline h1 h2
  | extend => exact pe_bm PySem.F.plainAttrs_list PySem.F.slot_list_extend PySem.F.type_list_extend hr ho ha hbase hfew hline h1 h2
  | pop => exact absurd rfl hne
  | popAt => exact pe_bm PySem.F.plainAttrs_list PySem.F.slot_list_pop PySem.F.type_list_pop hr ho ha hbase hfew hline h1 h2
theorem le_mth {m : Mt} {apos : Pos} (ho : LE X d td) (ha : LA X (a :: es) t) (hne : m ≠ .pop) (hbase : attributeBase d m.str X.env (eval d X.env) = eval d X.env)
    (hfew : ((backTo pos (starEach (a :: es) X.env)).all (fun x => !x.1) && (backToKw pos (keywordEach [] X.env)).all (fun x => x.1.isSome) && decide ((a :: es).length + ([] : List Keyword).length + (if ([] : List Keyword).isEmpty then 0 else 1) < 30)) = true)
    (hline : (apos.endLine == pos.line) = true) (hs1 : starEach (a :: es) X.env = (false, eval a X.env) :: starEach es X.env) (hs2 : (backTo pos (starEach es X.env)).any (·.1) = false) :
    LE X (.Call (.Attribute d m.str apos) (a :: es) [] pos) (fun ρ S Q => td ρ S fun x S1 => (∃ a ys, x = .ref a ∧ S1 a = some (.lst ys)) ∧ t ρ S1 fun xs S2 => mthP m x xs S2 Q) := by
  obtain ⟨r, h1, h2⟩ := mth_ok (X := X) m
  refine peW (bm_of h1 ho ha hne hbase hfew hline hs1 hs2) fun σ H Q h => ?_
  obtain ⟨ρ, S, Q0, re, rs, h, c⟩ := h
  refine ⟨ρ, S, _, re, rs, h, fun x S1 H1 v q t1 s1 r1 => ?_⟩
  obtain ⟨⟨a, ys, rfl, ea⟩, q⟩ := q
  cases r1
  obtain ⟨ws, e1, _⟩ := s1.lst ea
  refine ⟨.inl ⟨rfl, ws, .inl (.inl e1)⟩, ρ, S1, _, re.mono t1, s1, q, fun xs S2 H2 vs q2 t2 s2 r2 => ?_⟩
  exact h2 H2 S2 _ _ xs vs Q0 Q s2 (.ref a) r2 q2 (c.mono (t1.trans t2))
theorem le_pop {apos : Pos} (ho : LE X d td) (hbase : attributeBase d (Mt.str .pop) X.env (eval d X.env) = eval d X.env) (hline : (apos.endLine == pos.line) = true) :
    LE X (.Call (.Attribute d (Mt.str .pop) apos) [] [] pos) (fun ρ S Q => td ρ S fun x S1 => (∃ a ys, x = .ref a ∧ S1 a = some (.lst ys)) ∧ mthP .pop x [] S1 Q) := by
  obtain ⟨r, h1, h2⟩ := mth_ok (X := X) .pop
  refine peW (pe_bm0 PySem.F.plainAttrs_list PySem.F.slot_list_pop PySem.F.type_list_pop h1 ho hbase hline) fun σ H Q h => ?_
  obtain ⟨ρ, S, Q0, re, rs, h, c⟩ := h
  refine ⟨ρ, S, _, re, rs, h, fun x S1 H1 v q t1 s1 r1 => ?_⟩
  obtain ⟨⟨a, ys, rfl, ea⟩, q⟩ := q
  cases r1
  obtain ⟨ws, e1, _⟩ := s1.lst ea
  exact ⟨.inl ⟨rfl, ws, .inl (.inl e1)⟩, h2 H1 S1 _ _ [] [] Q0 Q s1 (.ref a) .nil q (c.mono t1)⟩
/-- d.get(k, z) -/
theorem le_dget {o e f : Expr} {to tk tx : PTE} {apos : Pos} (hu : X.A.units + 1 < cLine) (ho : LE X o to) (hk : LE X e tk) (hd : LE X f tx) (m : M2 X o "get" apos e f pos) :
    LE X (.Call (.Attribute o "get" apos) [e, f] [] pos) (fun ρ S Q => to ρ S fun x S1 => isDP x S1 ∧ tk ρ S1 fun y S2 => tx ρ S2 fun z S3 => getdP x y z S3 Q) := by
  refine peW (pe_dget2 hu ho hk hd m) fun σ H Q h => ?_
  obtain ⟨ρ, S, Q0, re, rs, h, c⟩ := h
  refine ⟨ρ, S, _, re, rs, h, fun x S1 H1 v q t1 s1 r1 => ?_⟩
  obtain ⟨hd, q⟩ := q
  rcases hd with ⟨a, kvs, rfl, ea⟩ | ⟨kvs, rfl⟩
  case inr =>
    cases r1 with
    | @dic _ a o ws hd e rs0 =>
    refine ⟨a, rfl, .inl ⟨ws, .inr ⟨o, hd⟩⟩, ρ, S1, _, re.mono t1, s1, q, fun y S2 H2 w q2 t2 s2 r2 => ?_⟩
    refine ⟨ρ, S2, _, re.mono (t1.trans t2), s2, q2, fun z S3 H3 u q3 t3 s3 r3 => ?_⟩
    simp only [getdP] at q3
    split at q3
    · rename_i k hk
      have hd3 := t3.lk _ _ _ (t2.lk _ _ _ hd)
      obtain ⟨w1, w2⟩ := valP_ok k kvs ws e ((rs0.mono t2).mono t3)
      have cc := c.mono (t1.trans (t2.trans t3))
      refine ⟨valV ws k, by rw [keyOf_ok r2 hk]; exact .inl ⟨ws, k, .inr ⟨o, hd3⟩, rfl, rfl⟩, ?_⟩
      cases hv : valP kvs k with
      | none =>
        rw [hv] at q3 w1
        have : valV ws k = none := by cases h : valV ws k with | none => rfl | some _ => rw [h] at w1; simp at w1
        rw [this]
        exact cc.here q3 s3 r3
      | some x =>
        rw [hv] at q3
        obtain ⟨u3, e3, r⟩ := w2 x hv
        rw [e3]
        exact cc.here q3 s3 r
    · exact q3.elim
  cases r1
  obtain ⟨ws, e1, _⟩ := s1 a _ ea
  refine ⟨a, rfl, .inl ⟨ws, .inl e1⟩, ρ, S1, _, re.mono t1, s1, q, fun y S2 H2 w q2 t2 s2 r2 => ?_⟩
  refine ⟨ρ, S2, _, re.mono (t1.trans t2), s2, q2, fun z S3 H3 u q3 t3 s3 r3 => ?_⟩
  simp only [getdP] at q3
  split at q3
  · rename_i kvs3 ea3
    split at q3
    · rename_i k hk
      obtain ⟨w3, g, i, hw⟩ := dget_ok (y := y) (o := .dK kvs3) (z := valP kvs3 k) s3 ea3 (r2.mono t3) (by simp only [dgetP, hk, Option.map_some])
      refine ⟨w3, g, ?_⟩
      have cc := c.mono (t1.trans (t2.trans t3))
      cases hv : valP kvs3 k with
      | none =>
        rw [hv] at q3 i
        have : w3 = none := by cases w3 with | none => rfl | some _ => simp at i
        subst this
        exact cc.here q3 s3 r3
      | some x =>
        rw [hv] at q3
        obtain ⟨u3, rfl, r⟩ := hw x hv
        exact cc.here q3 s3 r
    · exact q3.elim
  · exact q3.elim
/-! ### dict(list of pairs) -/
theorem prsP_ok {K : Fr8} {H : Hp} : ∀ {xs : List PV} {kvs : List (Key × PV)} {vs : List V}, prsP xs = some kvs → RepVs K H xs vs → ∃ (ps : List Addr) (ws : List (Key × V)), vs = ps.map V.ref ∧ Paired (fun p (kv : Key × V) => SqT K H p [kV kv.1, kv.2]) ps ws ∧ kvs.map (·.1) = ws.map (·.1) ∧ RepVs K H (kvs.map (·.2)) (ws.map (·.2))
  | [], kvs, vs, h, r => by
    cases r
    simp [prsP] at h; subst h
    exact ⟨[], [], rfl, .nil, rfl, .nil⟩
  | x :: xs, kvs, vs, h, r => by
    cases r with
    | @cons _ v _ vs r rs =>
    unfold prsP at h
    split at h
    · rename_i heq; cases heq
    · rename_i x0 y0 r0 heq
      cases heq
      split at h
      · rename_i k l hk hl
        cases h
        obtain ⟨ps, ws, e1, e2, e3, e4⟩ := prsP_ok hl rs
        cases r with
        | @tup _ a us ha ra =>
        obtain ⟨u, w, rfl, ru, rw'⟩ := R2' ra
        rw [keyOf_ok ru hk] at ha
        exact ⟨a :: ps, (k, w) :: ws, by rw [e1]; rfl, .cons ha e2, by simp [e3], .cons rw' e4⟩
      · cases h
    · cases h
/-! ### xs[::-1], list(range(..)), tuple(range(..)) -/
def lckE (t : TE) : TE := fun σ H Q => t σ H (lckQ Q)
theorem le_revL {k : Nat} {p1 p2 p3 : Pos} (ha : LE X a ta) : LE X (.Subscript a (.Slice none none (some (.UnaryOp .USub (.Constant (.int 1) k p1) p2)) p3) pos) (fun ρ S Q => ta ρ S fun x S1 => revP x S1 Q) := by
  refine peW (pe_lck (pe_revS ha)) fun σ H Q h => ?_
  obtain ⟨ρ, S, Q0, re, rs, h, c⟩ := h
  refine ⟨ρ, S, _, re, rs, h, fun x S1 H1 v q t1 s1 r1 => ?_⟩
  unfold revP at q
  split at q
  · cases r1 with
    | @tup _ a vs h1 h2 =>
    exact ⟨a, vs, rfl, .inr ⟨h1, fun p hp => .inl ((c.mono t1).newT q s1 h2.reverse hp)⟩⟩
  · cases r1 with
    | @rol _ a vs h1 h2 =>
    exact ⟨a, vs, rfl, .inl ⟨h1.sq, fun p hp => (c.mono t1).newF q s1 h2.reverse hp⟩⟩
  · split at q
    · rename_i xs e
      obtain ⟨a, vs, rfl, h1, h2⟩ := listP_ok s1 r1 e
      exact ⟨a, vs, rfl, .inl ⟨h1, fun p hp => .inl ((c.mono t1).newL q s1 h2.reverse hp)⟩⟩
    · exact q.elim
theorem rgV_rep {K : Fr8} {H : Hp} (a b : Int) : RepVs K H (rngL a b) (rgV a b) := by
  unfold rngL rgV
  generalize (b - a).toNat = n
  generalize e : List.range n = l
  clear e
  induction l with
  | nil => exact .nil
  | cons x l ih => exact .cons (.int _) ih
def rngW (ta : PTE) (k : Int → Int → Sto → PK1 → Prop) : PTE := fun ρ S Q => ta ρ S fun x S1 => match x with
  | .int n => k 0 n S1 Q
  | _ => False
theorem rg1_in {σ : L2.St} {H : Hp} {Q : Int → Int → Hp → Prop} {R : Int → Int → Sto → Prop} (h : ∃ ρ S, RepE X.K H ρ σ ∧ RepS X.K S H ∧ ta ρ S (fun x S1 => match x with
    | .int n => R 0 n S1
    | _ => False)) (c : ∀ i j S' H', R i j S' → TExt X.K H H' → RepS X.K S' H' → Q i j H') : tRg1 (liE X.K ta) σ H Q := by
  obtain ⟨ρ, S, re, rs, h⟩ := h
  refine ⟨ρ, S, _, re, rs, h, fun x S1 H1 v q t1 s1 r1 => ?_⟩
  split at q
  · cases r1; exact ⟨_, rfl, c _ _ _ _ q t1 s1⟩
  · exact q.elim
theorem rg2_in {σ : L2.St} {H : Hp} {Q : Int → Int → Hp → Prop} {R : Int → Int → Sto → Prop} (h : ∃ ρ S, RepE X.K H ρ σ ∧ RepS X.K S H ∧ ta ρ S (fun x S1 => tb ρ S1 fun y S2 => match x, y with
    | .int m, .int n => R m n S2
    | _, _ => False)) (c : ∀ i j S' H', R i j S' → TExt X.K H H' → RepS X.K S' H' → Q i j H') : tRg2 (liE X.K ta) (liE X.K tb) σ H Q := by
  obtain ⟨ρ, S, re, rs, h⟩ := h
  refine ⟨ρ, S, _, re, rs, h, fun x S1 H1 v q t1 s1 r1 => ?_⟩
  refine ⟨ρ, S1, _, re.mono t1, s1, q, fun y S2 H2 u q2 t2 s2 r2 => ?_⟩
  split at q2
  · cases r1; cases r2; exact ⟨_, _, rfl, rfl, c _ _ _ _ q2 (t1.trans t2) s2⟩
  · exact q2.elim
def lrgP (xs : List PV) (S1 : Sto) (Q : PK1) : Prop := match xs with
    | [.int n] => RgOk 0 n ∧ ∀ p, S1 p = none → Q (.ref p) (updS S1 p (.lst (rngL 0 n)))
    | [.int m, .int n] => RgOk m n ∧ ∀ p, S1 p = none → Q (.ref p) (updS S1 p (.lst (rngL m n)))
    | _ => False
def trgP (xs : List PV) (S1 : Sto) (Q : PK1) : Prop := match xs with
    | [.int n] => RgOk 0 n ∧ Q (.tup (rngL 0 n)) S1
    | [.int m, .int n] => RgOk m n ∧ Q (.tup (rngL m n)) S1
    | _ => False
theorem le_lrg1 {p p2 pos2 : Pos} (hc : X.calm = true) (hg : Gl X "list") (hm : X.mg "list" = none) (hg2 : Gl X "range") (hm2 : X.mg "range" = none) (ha : LE X a ta) (na : starEach [a] X.env = (false, eval a X.env) :: starEach [] X.env) :
    LE X (.Call (.Name "list" p) [.Call (.Name "range" p2) [a] [] pos2] [] pos) (fun ρ S Q => ta ρ S fun x S1 => lrgP [x] S1 Q) := by
  refine peW (pe_listRg hc hg hm (prg_1 hg2 hm2 ha na) rfl) fun σ H Q h => ?_
  obtain ⟨ρ, S, Q0, re, rs, h, c⟩ := h
  refine rg1_in (R := fun i n S1 => RgOk i n ∧ ∀ p, S1 p = none → Q0 (.ref p) (updS S1 p (.lst (rngL i n)))) ⟨ρ, S, re, rs, ?_⟩ fun i j S1 H1 q t1 s1 => ⟨q.1, fun p hp => (c.mono t1).newL q.2 s1 (rgV_rep i j) hp⟩
  refine cast (congrArg (ta ρ S) ?_) h
  funext x S1
  cases x <;> rfl
theorem le_lrg2 {p p2 pos2 : Pos} (hc : X.calm = true) (hg : Gl X "list") (hm : X.mg "list" = none) (hg2 : Gl X "range") (hm2 : X.mg "range" = none) (ha : LE X a ta) (hb : LE X b tb)
    (na : starEach [a, b] X.env = (false, eval a X.env) :: starEach [b] X.env) (nb : starEach [b] X.env = (false, eval b X.env) :: starEach [] X.env) :
    LE X (.Call (.Name "list" p) [.Call (.Name "range" p2) [a, b] [] pos2] [] pos) (fun ρ S Q => ta ρ S fun x S1 => tb ρ S1 fun y S2 => lrgP [x, y] S2 Q) := by
  refine peW (pe_listRg hc hg hm (prg_2 hg2 hm2 ha hb na nb (by rw [nb]; rfl)) rfl) fun σ H Q h => ?_
  obtain ⟨ρ, S, Q0, re, rs, h, c⟩ := h
  refine rg2_in (R := fun i n S1 => RgOk i n ∧ ∀ p, S1 p = none → Q0 (.ref p) (updS S1 p (.lst (rngL i n)))) ⟨ρ, S, re, rs, ?_⟩ fun i j S1 H1 q t1 s1 => ⟨q.1, fun p hp => (c.mono t1).newL q.2 s1 (rgV_rep i j) hp⟩
  refine cast (congrArg (ta ρ S) ?_) h
  funext x S1
  refine congrArg (tb ρ S1) ?_
  funext y S2
  cases x <;> cases y <;> rfl
theorem le_trg1 {p p2 pos2 : Pos} (hc : X.calm = true) (hg : Gl X "tuple") (hm : X.mg "tuple" = none) (hg2 : Gl X "range") (hm2 : X.mg "range" = none) (ha : LE X a ta) (na : starEach [a] X.env = (false, eval a X.env) :: starEach [] X.env) :
    LE X (.Call (.Name "tuple" p) [.Call (.Name "range" p2) [a] [] pos2] [] pos) (fun ρ S Q => ta ρ S fun x S1 => trgP [x] S1 Q) := by
  refine peW (pe_tupRg hc hg hm (prg_1 hg2 hm2 ha na) rfl) fun σ H Q h => ?_
  obtain ⟨ρ, S, Q0, re, rs, h, c⟩ := h
  refine rg1_in (R := fun i n S1 => RgOk i n ∧ Q0 (.tup (rngL i n)) S1) ⟨ρ, S, re, rs, ?_⟩ fun i j S1 H1 q t1 s1 => ⟨q.1, fun p hp => (c.mono t1).newT q.2 s1 (rgV_rep i j) hp⟩
  refine cast (congrArg (ta ρ S) ?_) h
  funext x S1
  cases x <;> rfl
theorem le_trg2 {p p2 pos2 : Pos} (hc : X.calm = true) (hg : Gl X "tuple") (hm : X.mg "tuple" = none) (hg2 : Gl X "range") (hm2 : X.mg "range" = none) (ha : LE X a ta) (hb : LE X b tb)
    (na : starEach [a, b] X.env = (false, eval a X.env) :: starEach [b] X.env) (nb : starEach [b] X.env = (false, eval b X.env) :: starEach [] X.env) :
    LE X (.Call (.Name "tuple" p) [.Call (.Name "range" p2) [a, b] [] pos2] [] pos) (fun ρ S Q => ta ρ S fun x S1 => tb ρ S1 fun y S2 => trgP [x, y] S2 Q) := by
  refine peW (pe_tupRg hc hg hm (prg_2 hg2 hm2 ha hb na nb (by rw [nb]; rfl)) rfl) fun σ H Q h => ?_
  obtain ⟨ρ, S, Q0, re, rs, h, c⟩ := h
  refine rg2_in (R := fun i n S1 => RgOk i n ∧ Q0 (.tup (rngL i n)) S1) ⟨ρ, S, re, rs, ?_⟩ fun i j S1 H1 q t1 s1 => ⟨q.1, fun p hp => (c.mono t1).newT q.2 s1 (rgV_rep i j) hp⟩
  refine cast (congrArg (ta ρ S) ?_) h
  funext x S1
  refine congrArg (tb ρ S1) ?_
  funext y S2
  cases x <;> cases y <;> rfl
def lrgFP (xs : List PV) (S1 : Sto) (Q : PK1) : Prop := match xs with
    | [.int n] => RgOk 0 n ∧ Q (.rol (rngL 0 n)) S1
    | [.int m, .int n] => RgOk m n ∧ Q (.rol (rngL m n)) S1
    | _ => False
theorem le_lrgF1 {p p2 pos2 : Pos} (hc : X.calm = true) (hg : Gl X "list") (hm : X.mg "list" = none) (hg2 : Gl X "range") (hm2 : X.mg "range" = none) (ha : LE X a ta) (na : starEach [a] X.env = (false, eval a X.env) :: starEach [] X.env) :
    LE X (.Call (.Name "list" p) [.Call (.Name "range" p2) [a] [] pos2] [] pos) (fun ρ S Q => ta ρ S fun x S1 => lrgFP [x] S1 Q) := by
  refine peW (pe_lck (pe_listRg hc hg hm (prg_1 hg2 hm2 ha na) rfl)) fun σ H Q h => ?_
  obtain ⟨ρ, S, Q0, re, rs, h, c⟩ := h
  refine rg1_in (R := fun i n S1 => RgOk i n ∧ Q0 (.rol (rngL i n)) S1) ⟨ρ, S, re, rs, ?_⟩ fun i j S1 H1 q t1 s1 => ⟨q.1, fun p hp => (c.mono t1).newF q.2 s1 (rgV_rep i j) hp⟩
  refine cast (congrArg (ta ρ S) ?_) h
  funext x S1
  cases x <;> rfl
theorem le_lrgF2 {p p2 pos2 : Pos} (hc : X.calm = true) (hg : Gl X "list") (hm : X.mg "list" = none) (hg2 : Gl X "range") (hm2 : X.mg "range" = none) (ha : LE X a ta) (hb : LE X b tb)
    (na : starEach [a, b] X.env = (false, eval a X.env) :: starEach [b] X.env) (nb : starEach [b] X.env = (false, eval b X.env) :: starEach [] X.env) :
    LE X (.Call (.Name "list" p) [.Call (.Name "range" p2) [a, b] [] pos2] [] pos) (fun ρ S Q => ta ρ S fun x S1 => tb ρ S1 fun y S2 => lrgFP [x, y] S2 Q) := by
  refine peW (pe_lck (pe_listRg hc hg hm (prg_2 hg2 hm2 ha hb na nb (by rw [nb]; rfl)) rfl)) fun σ H Q h => ?_
  obtain ⟨ρ, S, Q0, re, rs, h, c⟩ := h
  refine rg2_in (R := fun i n S1 => RgOk i n ∧ Q0 (.rol (rngL i n)) S1) ⟨ρ, S, re, rs, ?_⟩ fun i j S1 H1 q t1 s1 => ⟨q.1, fun p hp => (c.mono t1).newF q.2 s1 (rgV_rep i j) hp⟩
  refine cast (congrArg (ta ρ S) ?_) h
  funext x S1
  refine congrArg (tb ρ S1) ?_
  funext y S2
  cases x <;> cases y <;> rfl
end
end PL

set_option Elab.async false
set_option linter.all false
set_option maxRecDepth 100000
set_option maxHeartbeats 4000000
/-! sorted(set(a list of ints)). The rule for set(list) is the library's worked one for tuples, turned to lists. -/
namespace PL
open PySem PySem.Spec PyProof.Rows L2
section
variable {P : Program} {w : World} {A : Around} {E : Value → Shared → Prop} {s : Shared}
set_option maxRecDepth 100000 in
set_option maxHeartbeats 3200000 in
theorem call_set_lstI {l : Addr} {items : Array Value} (ns : List Int) {Q : Value → Shared → Prop} (hh : A.handled = none) (hl : s.heap.IsList l items) (hit : IntsAre items.toList ns) (hb : ns.length + 1 < scanBound)
    (h : ∀ (h' : Heap) (tk c : Nat), SetR w h' s.heap.objs.size (fun j => decide (j ∈ ns)) c → c ≤ ns.length → (∀ b o, s.heap.get? b = some o → h'.get? b = some o) → Q (.ref s.heap.objs.size) { s with heap := h', toks := tk }) :
    wpAny (model P w) A (call (.type "set") [.ref l]) Q E s := by
  have hisz : items.size = ns.length := by
    have q := IntsAre.length hit
    rw [Array.length_toList] at q
    exact q
  obtain ⟨c, tl, hmro⟩ := F.called_set.mro
  have hmade := F.called_set.made
  have hsub := F.called_set.sub
  refine wpAny_call (codeAny_of_tree ?_)
  show wpAny _ _ (callAny (.type "set") _) _ _ _
  refine wpAny_pure ⟨Code.quiet_builtin _ (by decide +kernel), codeAny_builtin F.entry_type_call ?_⟩
  rw [Around.under_plain (weight_type_call_type "set" [.ref l] []) rfl]
  have h1 := F.called_set.notType
  have h2 := F.called_set.canCreate
  have hct := F.typeCall_set_1 (.ref l)
  repeat (any_goals (first | assumption | wp_step))

  refine codeAny_mono (code_set_led1 (.ref l) (E := E) (Q₁ := fun obj s₁ => obj = .ref s.heap.objs.size ∧ s₁ = { s with heap := s.heap.push { cls := .type "set", dict := none, data := .set #[] 0 (.fresh 0 0 (!w.params.followText "set-order")) } }) ⟨rfl, rfl⟩) fun r s₁ hr => ?_
  cases r with
  | error e => exact hr
  | ok fl =>
    cases fl with
    | ret obj =>
      obtain ⟨rfl, rfl⟩ := hr
      have hS : (s.heap.push { cls := .type "set", dict := none, data := .set #[] 0 (.fresh 0 0 (!w.params.followText "set-order")) }).get? s.heap.objs.size = some { cls := .type "set", dict := none, data := .set #[] 0 (.fresh 0 0 (!w.params.followText "set-order")) } := Heap.get?_push_size _ rfl
      have hT : Shared.TypeIs { s with heap := s.heap.push { cls := .type "set", dict := none, data := .set #[] 0 (.fresh 0 0 (!w.params.followText "set-order")) } } (.ref s.heap.objs.size) "set" := ⟨_, hS, rfl⟩
      have hli := F.called_set.init.lookup
      have hbi := F.called_set.init.bind (.ref s.heap.objs.size)
      repeat (any_goals (first | assumption | wp_step))

      refine codeAny_mono (codeAny_call_builtin (R := wants (fun r s₂ => r = .none ∧ ∃ h' tk c, s₂ = { s with heap := h', toks := tk } ∧ SetR w h' s.heap.objs.size (fun j => decide (j ∈ ns)) c ∧ c ≤ ns.length ∧
          (∀ b o, s.heap.get? b = some o → h'.get? b = some o)) E) F.called_set.init.plain F.entry_set_init (check_set_init_1 hT ?_)) fun r₂ s₂ hr₂ => ?_
      · obtain ⟨ol, hol, hcl, nl, hdl⟩ := hl
        obtain ⟨ocls, odict, odata, oslots⟩ := ol
        simp only at hcl hdl
        subst hcl; subst hdl
        have hol' : (s.heap.push { cls := .type "set", dict := none, data := .set #[] 0 (.fresh 0 0 (!w.params.followText "set-order")) }).get? l = some { cls := .type "list", dict := odict, data := .seq items nl, slots := oslots } := Heap.get?_push_of_some _ hol
        have hsls := F.sub_list_set
        have hslf := F.sub_list_frozenset
        have hne : (Value.type "list" == Value.type "dict") = false := by decide
        have hl1 : (s.heap.push { cls := .type "set", dict := none, data := .set #[] 0 (.fresh 0 0 (!w.params.followText "set-order")) }).IsList l items := ⟨_, hol', rfl, nl, rfl⟩
        unfold Builtin.«set.__init__» noKeywords Builtin.Frozenset.updateFrom
        generalize hPI : pyIter = PI
        wp_walk
        subst hPI

        refine wpAny_pyIter_list hl1 ?_
        refine wpAny_bind (wpAny_runValue ?_)
        have hlS : l < s.heap.objs.size := Heap.lt_size hol
        have hh3 : A.in1.in1.in1.handled = none := by simp [hh]
        have hz1 : (s.heap.push { cls := .type "set", dict := none, data := .set #[] 0 (.fresh 0 0 (!w.params.followText "set-order")) }).objs.size = s.heap.objs.size + 1 := Heap.size_push ..
        have hneI : l ≠ (s.heap.push { cls := .type "set", dict := none, data := .set #[] 0 (.fresh 0 0 (!w.params.followText "set-order")) }).objs.size := by
          rw [Heap.size_push]; exact Nat.ne_of_lt (Nat.lt_succ_of_lt hlS)
        have hSf : s.heap.objs.size ∉ [(s.heap.push { cls := .type "set", dict := none, data := .set #[] 0 (.fresh 0 0 (!w.params.followText "set-order")) }).objs.size, l] := by
          rw [Heap.size_push]; simp only [List.mem_cons, List.mem_singleton, List.not_mem_nil, or_false, not_or]
          exact ⟨Nat.ne_of_lt (Nat.lt_succ_self _), Nat.ne_of_gt hlS⟩
        have hval : ∀ (i : Nat) (v : Value), items[i]? = some v → ∃ k t, ns[i]? = some k ∧ v = .int k t := fun i v hv => by
          have hi : i < ns.length := by rw [← hisz]; exact (Array.getElem?_eq_some_iff.mp hv).1
          obtain ⟨t, e⟩ := PyProof.Rows.IntsAre.int_at hit i v (by rw [Array.getElem?_toList]; exact hv)
          refine ⟨ns[i], t, List.getElem?_eq_getElem hi, ?_⟩
          rw [e, List.getD_eq_getElem?_getD, List.getElem?_eq_getElem hi] <;> rfl
        refine set_update_ints ((Walks.list hh3 _ l hneI items).toS) s.heap.objs.size
          hSf ns hisz hb hval (items.size - 0) 0 _ (by omega) (Nat.zero_le _)
          ⟨⟨_, Heap.get?_push_size _ rfl, rfl, rfl⟩, (hl1.push _)⟩ ?hS0 ?hR
        case hS0 =>
          have hget : ((s.heap.push { cls := .type "set", dict := none, data := .set #[] 0 (.fresh 0 0 (!w.params.followText "set-order")) }).push { cls := .type "list_iterator", data := .fields #[.ref l, .int 0 0] }).get? s.heap.objs.size
              = some { cls := .type "set", dict := none, data := .set #[] 0 (.fresh 0 0 (!w.params.followText "set-order")) } := Heap.get?_push_of_some _ hS
          exact ⟨0, Nat.le_refl 0, setR_new_at hget⟩
        case hR =>
          intro s' c' hm hc' hS'
          obtain ⟨h', g2, d', tk', os'⟩ := s'
          have eg : g2 = s.gens := hm.gens
          have ed : d' = s.drawn := hm.drawn
          have eo : os' = s.os := hm.os
          subst eg; subst ed; subst eo
          show wpAny _ _ _ _ _ _
          refine wpAny_pure ?_
          show wpAny _ _ (ret Value.none) _ _ _
          rw [hisz] at hc'
          refine wpAny_pure ⟨rfl, h', tk', c', rfl, hS', hc', fun b o e => ?_⟩
          have hb0 : b < s.heap.objs.size := Heap.lt_size e
          have hb1 : b ≠ s.heap.objs.size := Nat.ne_of_lt hb0
          have hb2 : b ≠ (s.heap.push { cls := .type "set", dict := none, data := .set #[] 0 (.fresh 0 0 (!w.params.followText "set-order")) }).objs.size := by
            rw [Heap.size_push]; exact Nat.ne_of_lt (Nat.lt_succ_of_lt hb0)
          exact hm.heap b o (by simp only [List.mem_cons, List.mem_singleton, List.not_mem_nil, or_false, not_or]; exact ⟨hb1, hb2⟩) (Heap.get?_push_of_some _ (Heap.get?_push_of_some _ e))

      · cases r₂ with
        | error e => exact hr₂
        | ok fl₂ =>
          cases fl₂ with
          | ret r =>
            obtain ⟨rfl, h', tk, c', rfl, hS', hc', hk'⟩ := hr₂
            repeat (any_goals (first | assumption | wp_step))
            exact h _ _ _ hS' hc' hk'
          | _ => exact hr₂.elim
    | _ => exact hr.elim

end
section
variable {X : Cx} {a : Expr} {pos : Pos} {ta : PTE}
def rSetOfL (X : Cx) : List V → Hp → VK → Prop := fun vs H Q => ∃ (l : Addr) (ns : List Int), vs = [.ref l] ∧ SqL X.K H l (ns.map V.int) ∧ ns.length + 1 < scanBound ∧ ∀ p, H p = none → Q (.ref p) (upd H p (SetO X.w p (fun j => decide (j ∈ ns)) (ssort ns).length))
theorem cr_setL (hc : X.calm = true) : CallR X (.type "set") (rSetOfL X) := by
  intro pins s σ H vs us Q I r h
  obtain ⟨l, ns, rfl, hl, hb, q⟩ := h
  rw [Vals.ref1 r]
  obtain ⟨its, rv, ⟨o, n, ho, hcl, hdn, hd⟩, hz⟩ := I.list hl
  have hi := ints_of_vals rv
  refine call_set_lstI ns (I.ok.hd hc) ⟨o, ho, hcl, n, hd⟩ hi hb fun h' tk c R hle k => ?_
  have hn : H s.heap.objs.size = none := I.hok.fresh (Nat.le_refl _)
  have ec : c = (ssort ns).length := by
    obtain ⟨o, es, ep, t, _, _, _, _, nd, mem, _, _, sz, _⟩ := R
    have nd2 : (ssort ns).Nodup := (ssort_sorted ns).imp fun h e => by omega
    have := (List.perm_ext_iff_of_nodup nd nd2).mpr fun z => by
      rw [← mem z, ssort_mem]; simp
    rw [← this.length_eq, List.length_map, Array.length_toList]; exact sz.symm
  subst ec
  exact ⟨.ref _, _, I.laid (t' := tk) k (Nat.le_refl _) (setO_new R), rfl, q _ hn⟩
theorem le_sset {p p2 pos2 : Pos} (hc : X.calm = true) (hg : Gl X "sorted") (hm : X.mg "sorted" = none) (hg2 : Gl X "set") (hm2 : X.mg "set" = none) (ha : LE X a ta) (na : starEach [a] X.env = (false, eval a X.env) :: starEach [] X.env) :
    LE X (.Call (.Name "sorted" p) [.Call (.Name "set" p2) [a] [] pos2] [] pos) (fun ρ S Q => ta ρ S fun x S1 => match (listP x S1).bind intsP with
      | some ns => (ssort ns).length < 64 ∧ ns.length < 4000 ∧ Q (.rol ((ssort ns).map .int)) S1
      | none => False) := by
  have e1 := pe_callTy (cr_setL hc) hg2 hm2 (by decide +kernel) (la_cons ha la_nil na) (by decide +kernel) (by decide +kernel) na rfl (pos := pos2) (p := p2)
  refine peW (pe_callB (CallR.lck (cr_sortedSet hc)) hg hm (by decide +kernel) (pa_cons e1 pa_nil) (by decide +kernel) (by decide +kernel) rfl rfl) fun σ H Q h => ?_
  obtain ⟨ρ, S, Q0, re, rs, h, c⟩ := h
  refine ⟨ρ, S, fun xs S1 => match xs with
    | [x] => (match (listP x S1).bind intsP with
      | some ns => (ssort ns).length < 64 ∧ ns.length < 4000 ∧ Q0 (.rol ((ssort ns).map .int)) S1
      | none => False)
    | _ => False, re, rs, h, fun xs S1 H1 vs q t1 s1 r1 => ?_⟩
  dsimp only at q
  split at q
  case h_2 => exact q.elim
  obtain ⟨v, rfl, r⟩ := R1 r1
  split at q
  case h_2 => exact q.elim
  rename_i ns e
  obtain ⟨l, rfl, hl⟩ := lints (ns := ns) s1 r e
  refine ⟨l, ns, rfl, hl, by have := q.2.1; unfold scanBound; omega, fun p hp => ?_⟩
  refine ⟨p, _, _, rfl, upd_same, q.1, fun ns' u h1 h2 h3 hu => ?_⟩
  have en : ns' = ssort ns := strict_one h1 (ssort_sorted ns) fun k => by rw [h2, ssort_mem]; simp
  exact (c.mono (t1.trans (TExt.new hp))).newF q.2.2 (s1.newT hp) (by rw [en]; exact RepVs.ints _) hu
end
end PL

set_option Elab.async false
set_option linter.all false
set_option maxRecDepth 100000
set_option maxHeartbeats 4000000
/-! What loops and comprehensions walk; loops; statements. -/
namespace PL
open PySem PySem.Spec L2
/-- an iterator walks xs, while Gd holds of the store -/
structure GoodIt (K : Fr8) (J : It) (xs : List PV) (Gd : Sto → Prop) (H0 : Hp) : Prop where
  go : ∀ i S H, TExt0 K H0 H → RepS K S H → Gd S → i < xs.length → J.go i H
  yld : ∀ i S H x H', TExt0 K H0 H → RepS K S H → Gd S → i < xs.length → J.yld i H x H' → ∃ y, xs[i]? = some y ∧ TExt K H H' ∧ RepV K H' y x ∧ ∀ S', RepS K S' H → RepS K S' H'
  stop : ∀ S H, TExt0 K H0 H → RepS K S H → Gd S → J.stop xs.length H
def liI (K : Fr8) (t : PTI) : TI := fun σ H R => ∃ ρ S R0, RepE K H ρ σ ∧ RepS K S H ∧ t ρ S R0 ∧ ∀ xs Gd S' H' J, R0 xs Gd S' → TExt K H H' → RepS K S' H' → GoodIt K J xs Gd H' → R J H'
abbrev LI (X : Cx) (tg e : Expr) (t : PTI) : Prop := L2.PI X tg e (liI X.K t)
theorem piW {X : Cx} {tg e : Expr} {t t' : TI} (h : L2.PI X tg e t) (w : ∀ σ H Q, t' σ H Q → t σ H Q) : L2.PI X tg e t' := ⟨fun pins s σ H Q I q => h.run pins s σ H Q I (w _ _ _ q)⟩
theorem get_lt {xs : List PV} {i : Nat} (h : i < xs.length) : ∃ y, xs[i]? = some y := ⟨xs[i], List.getElem?_eq_getElem h⟩
theorem good_seqL {K : Fr8} {a : Addr} {xs : List PV} {S0 : Sto} {H0 : Hp} {x : PV} (h : listP x S0 = some xs) (r : ∀ H S, TExt0 K H0 H → RepS K S H → seqG x S0 S → ∃ vs, SqL K H a vs ∧ RepVs K H xs vs)
    (u : ∀ H S vs ws, RepS K S H → seqG x S0 S → TExt0 K H0 H → SqL K H a vs → SqL K H a ws → vs = ws) : GoodIt K (Itl K a) xs (seqG x S0) H0 where
  go := fun i S H t s g hi => by
    obtain ⟨vs, h1, h2⟩ := r H S t s g
    obtain ⟨y, hy⟩ := get_lt hi
    obtain ⟨v, hv, _⟩ := h2.get hy
    exact ⟨vs, v, h1, hv⟩
  yld := fun i S H x' H' t s g hi y => by
    obtain ⟨rfl, y⟩ := y
    obtain ⟨vs, h1, h2⟩ := r _ S t s g
    obtain ⟨z, hz⟩ := get_lt hi
    obtain ⟨v, hv, rv⟩ := h2.get hz
    have := y vs h1
    rw [hv] at this
    cases this
    exact ⟨z, hz, TExt.refl _ _, rv, fun _ q => q⟩
  stop := fun S H t s g => by
    obtain ⟨vs, h1, h2⟩ := r H S t s g
    exact ⟨vs, h1, by rw [h2.length]; exact Nat.le_refl _⟩
/-- a list at a, as the store tells it, at every later heap -/
theorem seq_at {K : Fr8} {x : PV} {a : Addr} {vs : List V} {xs : List PV} {S0 : Sto} {H0 : Hp} (s0 : RepS K S0 H0) (r0 : RepV K H0 x (.ref a)) (h : listP x S0 = some xs) :
    ∀ H S, TExt0 K H0 H → RepS K S H → seqG x S0 S → ∃ vs, SqL K H a vs ∧ RepVs K H xs vs := by
  intro H S t s g
  cases r0 with
  | ref a =>
    simp only [listP] at h
    split at h
    · rename_i ys e
      cases h
      have e' : S a = some (.lst xs) := Eq.trans g e
      obtain ⟨ws, h1, h2⟩ := s.lst e'
      exact ⟨ws, .inl (.inl h1), h2⟩
    · cases h
  | rol h1 h2 =>
    simp only [listP] at h
    cases h
    exact ⟨_, (t.rol _ _ h1).sq, h2.mono0 t⟩
  | tup h1 h2 => simp [listP] at h
  | dic _ _ _ => simp [listP] at h
theorem good_list {K : Fr8} {x : PV} {a : Addr} {xs : List PV} {S0 : Sto} {H0 : Hp} (s0 : RepS K S0 H0) (r0 : RepV K H0 x (.ref a)) (h : listP x S0 = some xs) : GoodIt K (Itl K a) xs (seqG x S0) H0 where
  go := fun i S H t s g hi => by
    obtain ⟨vs, h1, h2⟩ := seq_at (vs := []) s0 r0 h H S t s g
    obtain ⟨y, hy⟩ := get_lt hi
    obtain ⟨v, hv, _⟩ := h2.get hy
    exact ⟨vs, v, h1, hv⟩
  yld := fun i S H x' H' t s g hi y => by
    obtain ⟨rfl, y⟩ := y
    obtain ⟨vs, h1, h2⟩ := seq_at (vs := []) s0 r0 h _ S t s g
    obtain ⟨z, hz⟩ := get_lt hi
    obtain ⟨v, hv, rv⟩ := h2.get hz
    have := y vs h1
    rw [hv] at this
    cases this
    exact ⟨z, hz, TExt.refl _ _, rv, fun _ q => q⟩
  stop := fun S H t s g => by
    obtain ⟨vs, h1, h2⟩ := seq_at (vs := []) s0 r0 h H S t s g
    exact ⟨vs, h1, by rw [h2.length]; exact Nat.le_refl _⟩
theorem good_tup {K : Fr8} {a : Addr} {xs : List PV} {vs : List V} {Gd : Sto → Prop} {H0 : Hp} (h1 : SqT K H0 a vs) (h2 : RepVs K H0 xs vs) : GoodIt K (Itt K a) xs Gd H0 where
  go := fun i S H t s g hi => by
    obtain ⟨y, hy⟩ := get_lt hi
    obtain ⟨v, hv, _⟩ := h2.get hy
    exact ⟨vs, v, t.tup _ _ h1, hv⟩
  yld := fun i S H x' H' t s g hi y => by
    obtain ⟨rfl, y⟩ := y
    obtain ⟨z, hz⟩ := get_lt hi
    obtain ⟨v, hv, rv⟩ := h2.get hz
    have := y vs (t.tup _ _ h1)
    rw [hv] at this
    cases this
    exact ⟨z, hz, TExt.refl _ _, rv.mono0 t, fun _ q => q⟩
  stop := fun S H t s g => ⟨vs, t.tup _ _ h1, by rw [h2.length]; exact Nat.le_refl _⟩
theorem good_rng {K : Fr8} {lo hi : Int} {Gd : Sto → Prop} {H0 : Hp} : GoodIt K (Itr lo (hi - lo).toNat) (rngL lo hi) Gd H0 where
  go := fun i S H t s g hi' => by rw [show (rngL lo hi).length = (hi - lo).toNat by simp [rngL]] at hi'; exact hi'
  yld := fun i S H x' H' t s g hi' y => by
    rw [show (rngL lo hi).length = (hi - lo).toNat by simp [rngL]] at hi'
    obtain ⟨rfl, rfl⟩ := y
    exact ⟨.int (lo + i), by simp [rngL, hi'], TExt.refl _ _, .int _, fun _ q => q⟩
  stop := fun S H t s g => by show _ ≤ _; simp [rngL]
theorem good_rng3 {K : Fr8} {a c : Int} {n : Nat} {Gd : Sto → Prop} {H0 : Hp} : GoodIt K (Itc a c n) (rng3L a c n) Gd H0 where
  go := fun i S H t s g hi' => by rw [show (rng3L a c n).length = n by simp [rng3L]] at hi'; exact hi'
  yld := fun i S H x' H' t s g hi' y => by
    rw [show (rng3L a c n).length = n by simp [rng3L]] at hi'
    obtain ⟨rfl, rfl⟩ := y
    exact ⟨.int (a + i * c), by simp [rng3L, hi'], TExt.refl _ _, .int _, fun _ q => q⟩
  stop := fun S H t s g => by show _ ≤ _; simp [rng3L]
theorem good_enum {K : Fr8} {x : PV} {a : Addr} {xs : List PV} {S0 : Sto} {H0 : Hp} (s0 : RepS K S0 H0) (r0 : RepV K H0 x (.ref a)) (h : listP x S0 = some xs) : GoodIt K (Ite K a) (enumL xs) (seqG x S0) H0 where
  go := fun i S H t s g hi => by
    obtain ⟨vs, h1, h2⟩ := seq_at (vs := []) s0 r0 h H S t s g
    rw [show (enumL xs).length = xs.length by simp [enumL]] at hi
    obtain ⟨y, hy⟩ := get_lt hi
    obtain ⟨v, hv, _⟩ := h2.get hy
    exact ⟨vs, v, h1, hv⟩
  yld := fun i S H x' H' t s g hi y => by
    obtain ⟨T, w, rfl, hT, rfl, y⟩ := y
    rw [show (enumL xs).length = xs.length by simp [enumL]] at hi
    obtain ⟨vs, h1, h2⟩ := seq_at (vs := []) s0 r0 h _ S t s g
    obtain ⟨z, hz⟩ := get_lt hi
    obtain ⟨v, hv, rv⟩ := h2.get hz
    have := y vs h1
    rw [hv] at this
    cases this
    refine ⟨.tup [.int (i : Nat), z], ?_, TExt.new hT, .tup (.inl (.inl upd_same)) (.cons (.int _) (.cons (rv.mono (TExt.new hT)) .nil)), fun S' q => q.newT hT⟩
    simp [enumL, List.getElem?_map, List.getElem?_zipIdx, hz]
  stop := fun S H t s g => by
    obtain ⟨vs, h1, h2⟩ := seq_at (vs := []) s0 r0 h H S t s g
    exact ⟨vs, h1, by rw [← h2.length]; simp [enumL]⟩
theorem good_zip {K : Fr8} {x y : PV} {a b : Addr} {xs ys : List PV} {S0 : Sto} {H0 : Hp} (s0 : RepS K S0 H0) (r0 : RepV K H0 x (.ref a)) (h : listP x S0 = some xs) (r0' : RepV K H0 y (.ref b)) (h' : listP y S0 = some ys) :
    GoodIt K (Itz K a b) (zipL xs ys) (fun S => seqG x S0 S ∧ seqG y S0 S) H0 where
  go := fun i S H t s g hi => by
    obtain ⟨vs, h1, h2⟩ := seq_at (vs := []) s0 r0 h H S t s g.1
    obtain ⟨ws, h3, h4⟩ := seq_at (vs := []) s0 r0' h' H S t s g.2
    rw [show (zipL xs ys).length = min xs.length ys.length by simp [zipL]] at hi
    obtain ⟨z, hz⟩ := get_lt (xs := xs) (i := i) (by omega)
    obtain ⟨z', hz'⟩ := get_lt (xs := ys) (i := i) (by omega)
    obtain ⟨v, hv, _⟩ := h2.get hz
    obtain ⟨v', hv', _⟩ := h4.get hz'
    exact ⟨vs, ws, v, v', h1, h3, hv, hv'⟩
  yld := fun i S H x' H' t s g hi y => by
    obtain ⟨T, w, w', rfl, hT, rfl, y, y'⟩ := y
    rw [show (zipL xs ys).length = min xs.length ys.length by simp [zipL]] at hi
    obtain ⟨vs, h1, h2⟩ := seq_at (vs := []) s0 r0 h _ S t s g.1
    obtain ⟨ws, h3, h4⟩ := seq_at (vs := []) s0 r0' h' _ S t s g.2
    obtain ⟨z, hz⟩ := get_lt (xs := xs) (i := i) (by omega)
    obtain ⟨z', hz'⟩ := get_lt (xs := ys) (i := i) (by omega)
    obtain ⟨v, hv, rv⟩ := h2.get hz
    obtain ⟨v', hv', rv'⟩ := h4.get hz'
    have q := y vs h1
    rw [hv] at q
    cases q
    have q' := y' ws h3
    rw [hv'] at q'
    cases q'
    have tn : TExt K H (upd H T (.tup [w, w'])) := TExt.new hT
    refine ⟨.tup [z, z'], ?_, tn, .tup (.inl (.inl upd_same)) (.cons (rv.mono tn) (.cons (rv'.mono tn) .nil)), fun S' q => q.newT hT⟩
    simp [zipL, List.getElem?_map, List.getElem?_zip_eq_some, hz, hz', List.zip, List.getElem?_zipWith]
  stop := fun S H t s g => by
    obtain ⟨vs, h1, h2⟩ := seq_at (vs := []) s0 r0 h H S t s g.1
    obtain ⟨ws, h3, h4⟩ := seq_at (vs := []) s0 r0' h' H S t s g.2
    refine ⟨vs, ws, h1, h3, ?_⟩
    rw [← h2.length, ← h4.length, show (zipL xs ys).length = min xs.length ys.length by simp [zipL]]
    omega
theorem good_zipT {K : Fr8} {a b : Addr} {xs ys : List PV} {vs ws : List V} {Gd : Sto → Prop} {H0 : Hp} (h1 : SqT K H0 a vs) (h2 : RepVs K H0 xs vs) (h3 : SqT K H0 b ws) (h4 : RepVs K H0 ys ws) : GoodIt K (RZ.ItzT K a b) (zipL xs ys) Gd H0 where
  go := fun i S H t s g hi => by
    rw [show (zipL xs ys).length = min xs.length ys.length by simp [zipL]] at hi
    obtain ⟨z, hz⟩ := get_lt (xs := xs) (i := i) (by omega)
    obtain ⟨z', hz'⟩ := get_lt (xs := ys) (i := i) (by omega)
    obtain ⟨v, hv, _⟩ := h2.get hz
    obtain ⟨v', hv', _⟩ := h4.get hz'
    exact ⟨vs, ws, v, v', t.tup _ _ h1, t.tup _ _ h3, hv, hv'⟩
  yld := fun i S H x' H' t s g hi y => by
    obtain ⟨T, w, w', rfl, hT, rfl, y, y'⟩ := y
    rw [show (zipL xs ys).length = min xs.length ys.length by simp [zipL]] at hi
    obtain ⟨z, hz⟩ := get_lt (xs := xs) (i := i) (by omega)
    obtain ⟨z', hz'⟩ := get_lt (xs := ys) (i := i) (by omega)
    obtain ⟨v, hv, rv⟩ := h2.get hz
    obtain ⟨v', hv', rv'⟩ := h4.get hz'
    have q := y vs (t.tup _ _ h1)
    rw [hv] at q
    cases q
    have q' := y' ws (t.tup _ _ h3)
    rw [hv'] at q'
    cases q'
    have tn : TExt K H (upd H T (.tup [w, w'])) := TExt.new hT
    refine ⟨.tup [z, z'], ?_, tn, .tup (.inl (.inl upd_same)) (.cons ((rv.mono0 t).mono tn) (.cons ((rv'.mono0 t).mono tn) .nil)), fun S' q => q.newT hT⟩
    simp [zipL, List.getElem?_map, List.getElem?_zip_eq_some, hz, hz', List.zip, List.getElem?_zipWith]
  stop := fun S H t s g => by
    refine ⟨vs, ws, t.tup _ _ h1, t.tup _ _ h3, ?_⟩
    rw [← h2.length, ← h4.length, show (zipL xs ys).length = min xs.length ys.length by simp [zipL]]
    omega
section
variable {X : Cx} {a b d tg : Expr} {es : List Expr} {pos : Pos} {ta tb td : PTE} {t : PTA}
def iSeq (K : Fr8) (tl : TE) : TI := fun σ H R => tl σ H fun x H1 => ∃ a, x = .ref a ∧ (((∃ xs, SqL K H1 a xs) ∧ R (Itl K a) H1) ∨ ((∃ xs, SqT K H1 a xs) ∧ R (Itt K a) H1))
theorem pi_seq {l : Expr} {tl : TE} (hl : PE X l tl) : L2.PI X tg l (iSeq X.K tl) := by
  refine ⟨fun pins s σ H R I h => ?_⟩
  refine thn (hl.run pins s σ H _ I h) fun v s1 ⟨x, H1, I1, r1, q1⟩ => ?_
  obtain ⟨a, e, q⟩ := q1
  subst e
  cases r1
  rcases q with ⟨⟨xs, hq⟩, q⟩ | ⟨⟨xs, hq⟩, q⟩
  · obtain ⟨its, rv, p, hz⟩ := I1.list hq
    refine wpAny_pyIter_list p.isList ?_
    refine ⟨s1.heap.objs.size, [s1.heap.objs.size], _, _, H1, rfl, I1.kept (t' := s1.toks) fun b o e => Heap.get?_push_of_some _ e, turn_list a _, ⟨_, Heap.get?_push_size _ rfl, rfl, rfl⟩, fun b hb => ?_, q⟩
    have e : b = s1.heap.objs.size := by simpa using hb
    subst e
    exact I1.fpOk (Nat.le_refl _) (I1.hok.fresh (Nat.le_refl _))
  · obtain ⟨its, rv, p, hz⟩ := I1.tuple hq
    refine wpAny_pyIter_tuple (show s1.heap.IsTuple a its.toArray from p) ?_
    refine ⟨s1.heap.objs.size, [s1.heap.objs.size], _, _, H1, rfl, I1.kept (t' := s1.toks) fun b o e => Heap.get?_push_of_some _ e, turn_tuple a _, ⟨_, Heap.get?_push_size _ rfl, rfl, rfl⟩, fun b hb => ?_, q⟩
    have e : b = s1.heap.objs.size := by simpa using hb
    subst e
    exact I1.fpOk (Nat.le_refl _) (I1.hok.fresh (Nat.le_refl _))
theorem pi_or {l : Expr} {t t' : TI} (h : L2.PI X tg l t) (h' : L2.PI X tg l t') : L2.PI X tg l (fun σ H R => t σ H R ∨ t' σ H R) := ⟨fun pins s σ H R I q => q.elim (h.run pins s σ H R I) (h'.run pins s σ H R I)⟩
/-- lists, tuples, the keys of frozen dicts -/
def iSeqK (K : Fr8) (tl : TE) : TI := fun σ H R => tl σ H fun x H1 => ∃ a, x = .ref a ∧ (((∃ xs, SqL K H1 a xs) ∧ R (Itl K a) H1) ∨ ((∃ xs, SqT K H1 a xs) ∧ R (Itt K a) H1) ∨ ∃ o kvs, H1 a = some (.frz o (.dK kvs)) ∧ R (Itk a o kvs) H1)
theorem pi_seqK {l : Expr} {tl : TE} (hl : PE X l tl) : L2.PI X tg l (iSeqK X.K tl) := by
  refine ⟨fun pins s σ H R I h => ?_⟩
  refine thn (hl.run pins s σ H _ I h) fun v s1 ⟨x, H1, I1, r1, q1⟩ => ?_
  obtain ⟨a, e, q⟩ := q1
  subst e
  cases r1
  rcases q with ⟨⟨xs, hq⟩, q⟩ | ⟨⟨xs, hq⟩, q⟩ | ⟨o, kvs, hd, q⟩
  · obtain ⟨its, rv, p, hz⟩ := I1.list hq
    refine wpAny_pyIter_list p.isList ?_
    exact pi_one (tk := s1.toks) I1 _ (turn_list a _) ⟨_, Heap.get?_push_size _ rfl, rfl, rfl⟩ q
  · obtain ⟨its, rv, p, hz⟩ := I1.tuple hq
    refine wpAny_pyIter_tuple (show s1.heap.IsTuple a its.toArray from p) ?_
    exact pi_one (tk := s1.toks) I1 _ (turn_tuple a _) ⟨_, Heap.get?_push_size _ rfl, rfl, rfl⟩ q
  · obtain ⟨hs, hgd, hx, es, ep, vs, hdt, hsz, kv, hm⟩ := I1.frzK hd
    refine iter_keys hs hgd hx hdt (pi_one (tk := s1.toks) I1 _ (turn_keys _ hdt) ⟨_, Heap.get?_push_size _ rfl, rfl, ?_⟩ q)
    rw [hsz] <;> rfl
theorem good_keys {K : Fr8} {a : Addr} {o : Obj} {kvs : List (Key × PV)} {ws : List (Key × V)} {Gd : Sto → Prop} {H0 : Hp} (h1 : H0 a = some (.frz o (.dK ws))) (e : kvs.map (·.1) = ws.map (·.1)) : GoodIt K (Itk a o ws) (kvs.map fun kv => pvK kv.1) Gd H0 where
  go := fun i S H t s g hi => ⟨t.dic _ _ _ h1, by
    have hl : kvs.length = ws.length := by simpa using congrArg List.length e
    rw [List.length_map] at hi; omega⟩
  yld := fun i S H x' H' t s g hi y => by
    obtain ⟨rfl, k, v, hk, rfl⟩ := y
    have hk2 : (kvs.map (·.1))[i]? = some k := by rw [e, List.getElem?_map, hk]; rfl
    rw [List.getElem?_map] at hk2
    cases hq : kvs[i]? with
    | none => rw [hq] at hk2; cases hk2
    | some q =>
      rw [hq] at hk2
      have hk3 : q.1 = k := by simpa using hk2
      refine ⟨pvK q.1, by rw [List.getElem?_map, hq]; rfl, TExt.refl _ _, ?_, fun _ z => z⟩
      rw [hk3]
      cases k with
      | inl i => exact .int i
      | inr z => exact .str z
  stop := fun S H t s g => ⟨t.dic _ _ _ h1, by
    have hl : kvs.length = ws.length := by simpa using congrArg List.length e
    rw [List.length_map]; omega⟩
theorem li_seq (ha : LE X a ta) : LI X tg a (fun ρ S R => ta ρ S fun x S1 => match itemsP x S1 with
    | some xs => R xs (seqG x S1) S1
    | none => match x with
      | .dic kvs => R (kvs.map fun kv => pvK kv.1) (fun _ => True) S1
      | _ => False) := by
  refine piW (pi_seqK ha) fun σ H R h => ?_
  obtain ⟨ρ, S, R0, re, rs, h, c⟩ := h
  refine ⟨ρ, S, _, re, rs, h, fun x S1 H1 v q t1 s1 r1 => ?_⟩
  split at q
  · rename_i xs e
    obtain ⟨a, vs, rfl, h2, k⟩ := itemsP_ok s1 r1 e
    refine ⟨a, rfl, ?_⟩
    rcases k with ⟨k, hl⟩ | ⟨rfl, ht⟩
    · exact .inl ⟨⟨vs, hl⟩, c _ _ _ _ _ q t1 s1 (good_list s1 r1 k)⟩
    · exact .inr (.inl ⟨⟨vs, ht⟩, c _ _ _ _ _ q t1 s1 (good_tup ht h2)⟩)
  · split at q
    · rename_i kvs
      cases r1 with
      | @dic _ a o ws hd e rs0 =>
      exact ⟨a, rfl, .inr (.inr ⟨o, ws, hd, c _ _ _ _ _ q t1 s1 (good_keys hd e)⟩)⟩
    · exact q.elim
theorem li_rng1 {p : Pos} (hg : Gl X "range") (hm : X.mg "range" = none) (ha : LA X [a] t) (hs : starEach [a] X.env = [(false, eval a X.env)]) : LI X tg (.Call (.Name "range" p) [a] [] pos) (fun ρ S R => t ρ S fun xs S1 => ∃ n, xs = [.int n] ∧ (-(2 ^ 62) ≤ n ∧ n < 2 ^ 62) ∧ R (rngL 0 n) (fun _ => True) S1) := by
  refine piW (pi_range1 hg hm ha hs) fun σ H R h => ?_
  obtain ⟨ρ, S, R0, re, rs, h, c⟩ := h
  refine ⟨ρ, S, _, re, rs, h, fun xs S1 H1 vs q t1 s1 r1 => ?_⟩
  obtain ⟨n, rfl, hb, q⟩ := q
  obtain ⟨v, rfl, r⟩ := R1 r1
  cases r
  refine ⟨n, rfl, hb.1, hb.2, c _ _ _ _ _ q t1 s1 ?_⟩
  have := good_rng (K := X.K) (lo := 0) (hi := n) (Gd := fun _ => True) (H0 := H1)
  rwa [Int.sub_zero] at this
theorem li_rng2 {p : Pos} (hg : Gl X "range") (hm : X.mg "range" = none) (ha : LA X [a, b] t) (hs : starEach [a, b] X.env = [(false, eval a X.env), (false, eval b X.env)]) (hs2 : starEach [b] X.env = [(false, eval b X.env)]) :
    LI X tg (.Call (.Name "range" p) [a, b] [] pos) (fun ρ S R => t ρ S fun xs S1 => ∃ m n, xs = [.int m, .int n] ∧ (-(2 ^ 62) ≤ m ∧ m < 2 ^ 62 ∧ -(2 ^ 62) ≤ n ∧ n < 2 ^ 62) ∧ R (rngL m n) (fun _ => True) S1) := by
  refine piW (pi_range2 hg hm ha hs hs2) fun σ H R h => ?_
  obtain ⟨ρ, S, R0, re, rs, h, c⟩ := h
  refine ⟨ρ, S, _, re, rs, h, fun xs S1 H1 vs q t1 s1 r1 => ?_⟩
  obtain ⟨m, n, rfl, hb, q⟩ := q
  obtain ⟨v, w, rfl, r, r'⟩ := R2' r1
  cases r; cases r'
  exact ⟨m, n, rfl, hb, c _ _ _ _ _ q t1 s1 good_rng⟩
theorem li_rng3 {p : Pos} (hg : Gl X "range") (hm : X.mg "range" = none) (ha : LA X [a, b, d] t) (hs : starEach [a, b, d] X.env = (false, eval a X.env) :: starEach [b, d] X.env) (hpl : (backTo pos (starEach [b, d] X.env)).any (·.1) = false) :
    LI X tg (.Call (.Name "range" p) [a, b, d] [] pos) (fun ρ S R => t ρ S fun xs S1 => ∃ m n k j, xs = [.int m, .int n, .int k] ∧ RgC m n k j ∧ R (rng3L m k j) (fun _ => True) S1) := by
  refine piW (pi_range3 hg hm ha hs hpl) fun σ H R h => ?_
  obtain ⟨ρ, S, R0, re, rs, h, c⟩ := h
  refine ⟨ρ, S, _, re, rs, h, fun xs S1 H1 vs q t1 s1 r1 => ?_⟩
  obtain ⟨m, n, k, j, rfl, hb, q⟩ := q
  cases r1 with
  | cons r r1 =>
  obtain ⟨v, w, rfl, r', r''⟩ := R2' r1
  cases r; cases r'; cases r''
  exact ⟨m, n, k, j, rfl, hb, c _ _ _ _ _ q t1 s1 good_rng3⟩
theorem li_enum {p tpos : Pos} {elts : List Expr} {kk : Nat} (hg : Gl X "enumerate") (hm : X.mg "enumerate" = none) (ha : LE X a ta) (hs : starEach [a] X.env = [(false, eval a X.env)]) :
    LI X (.Tuple elts kk tpos) (.Call (.Name "enumerate" p) [a] [] pos) (fun ρ S R => ta ρ S fun x S1 => match listP x S1 with
    | some xs => R (enumL xs) (seqG x S1) S1
    | none => False) := by
  refine piW (pi_enum hg hm (la_cons ha la_nil (by rw [hs]; rfl)) hs) fun σ H R h => ?_
  obtain ⟨ρ, S, R0, re, rs, h, c⟩ := h
  refine ⟨ρ, S, fun xs S1 => match xs with
    | [x] => (match listP x S1 with
      | some xs => R0 (enumL xs) (seqG x S1) S1
      | none => False)
    | _ => False, re, rs, h, fun xs S1 H1 vs q t1 s1 r1 => ?_⟩
  dsimp only at q
  split at q
  case h_2 => exact q.elim
  cases r1 with
  | @cons x v _ _ r1 rr =>
  cases rr
  split at q
  · rename_i ys e
    obtain ⟨a, ws, rfl, h1, h2⟩ := listP_ok s1 r1 e
    exact ⟨a, ws, rfl, h1, c _ _ _ _ _ q t1 s1 (good_enum s1 r1 e)⟩
  · exact q.elim
def zipW (x y : PV) (S2 : Sto) (R : List PV → (Sto → Prop) → Sto → Prop) : Prop := match listP x S2, listP y S2 with
    | some xs, some ys => R (zipL xs ys) (fun S => seqG x S2 S ∧ seqG y S2 S) S2
    | _, _ => match x, y with
      | .tup xs, .tup ys => R (zipL xs ys) (fun _ => True) S2
      | _, _ => False
theorem li_zip {p tpos : Pos} {elts : List Expr} {kk : Nat} (hg : Gl X "zip") (hm : X.mg "zip" = none) (ha : LE X a ta) (hb : LE X b tb) (hs : starEach [a, b] X.env = (false, eval a X.env) :: starEach [b] X.env) (hs2 : starEach [b] X.env = [(false, eval b X.env)]) :
    LI X (.Tuple elts kk tpos) (.Call (.Name "zip" p) [a, b] [] pos) (fun ρ S R => ta ρ S fun x S1 => tb ρ S1 fun y S2 => zipW x y S2 R) := by
  refine piW (RZ.pi_zipA hg hm (la_cons ha (la_cons hb la_nil (by rw [hs2]; rfl)) hs) hs (by rw [hs2]; rfl)) fun σ H R h => ?_
  obtain ⟨ρ, S, R0, re, rs, h, c⟩ := h
  refine ⟨ρ, S, fun xs S1 => match xs with
    | [x, y] => zipW x y S1 R0
    | _ => False, re, rs, h, fun xs S1 H1 vs q t1 s1 r1 => ?_⟩
  dsimp only at q
  split at q
  case h_2 => exact q.elim
  cases r1 with
  | @cons x v _ _ r1 rr =>
  cases rr with
  | @cons y w _ _ r2 rr =>
  cases rr
  unfold zipW at q
  split at q
  · rename_i xs ys e e'
    obtain ⟨a, vs, rfl, h1, h2⟩ := listP_ok s1 r1 e
    obtain ⟨b, ws, rfl, h3, h4⟩ := listP_ok s1 r2 e'
    exact ⟨a, b, vs, ws, rfl, .inl ⟨h1, h3, c _ _ _ _ _ q t1 s1 (good_zip s1 r1 e r2 e')⟩⟩
  · split at q
    · cases r1 with
      | tup h1 h2 =>
      cases r2 with
      | tup h3 h4 =>
      exact ⟨_, _, _, _, rfl, .inr ⟨h1, h3, c _ _ _ _ _ q t1 s1 (good_zipT h1 h2 h3 h4)⟩⟩
    · exact q.elim
end
end PL

set_option Elab.async false
set_option linter.all false
set_option maxRecDepth 100000
set_option maxHeartbeats 4000000
/-! Comprehensions, loops, statements. -/
namespace PL
open PySem PySem.Spec L2
/-! ### targets -/
def gNms : List Nat → TGs
  | [] => gNil
  | i :: is => gCons (gName i) (gNms is)
def gV (K : Fr8) : G → TG
  | .nm i => gName i
  | .tup is => gTup K is.length (gNms is)
def G.slots : G → List Nat
  | .nm i => [i]
  | .tup is => is
theorem wipe_set_of {σ : L2.St} {i : Nat} {v : Option V} : ∀ {vs : List Nat}, i ∈ vs → L2.wipe (σ.set i v) vs = L2.wipe σ vs
  | [], h => by cases h
  | w :: vs, h => by
    unfold L2.wipe
    by_cases e : i = w
    · subst e
      by_cases hm : i ∈ vs
      · rw [wipe_set_of hm]
      · have : ∀ (vs : List Nat), i ∉ vs → ((L2.wipe (σ.set i v) vs).set i none) = ((L2.wipe σ vs).set i none) := by
          intro vs
          induction vs with
          | nil => intro _; show (σ.set i v).set i none = σ.set i none; rw [List.set_set]
          | cons u us ih =>
            intro hu
            have hu' : u ≠ i := fun z => hu (by rw [z]; exact List.mem_cons_self)
            have hus : i ∉ us := fun z => hu (List.mem_cons_of_mem _ z)
            unfold L2.wipe
            rw [List.set_comm _ _ hu', List.set_comm _ _ hu', ih hus]
        exact this vs hm
    · have hm : i ∈ vs := (List.mem_cons.mp h).resolve_left e
      rw [wipe_set_of hm]
theorem gNms_ok {K : Fr8} {H : Hp} {S : Sto} {k : Nv → Sto → Prop} {Q : L2.St → Hp → Prop} : ∀ (is : List Nat) (ρ : Nv) (σ : L2.St) (xs : List PV) (vs : List V), RepE K H ρ σ → RepVs K H xs vs → xs.length = is.length → k (setAll ρ is xs) S →
    (∀ ρ2 σ2, RepE K H ρ2 σ2 → k ρ2 S → (∀ ws : List Nat, (∀ j ∈ is, j ∈ ws) → L2.wipe σ2 ws = L2.wipe σ ws) → Q σ2 H) → gNms is vs σ H Q
  | [], ρ, σ, xs, vs, re, rv, hl, hk, c => by
    cases xs with
    | nil => cases rv; exact ⟨rfl, c ρ σ re hk fun ws _ => rfl⟩
    | cons _ _ => simp at hl
  | i :: is, ρ, σ, xs, vs, re, rv, hl, hk, c => by
    cases xs with
    | nil => simp at hl
    | cons x xs =>
    cases rv with
    | @cons _ v _ vs r rv =>
    refine ⟨v, vs, rfl, ?_⟩
    refine gNms_ok is (ρ.set i (some x)) (σ.set i (some v)) xs vs (re.set r) rv (by simpa using hl) hk fun ρ2 σ2 re2 hk2 hw => c ρ2 σ2 re2 hk2 fun ws hws => ?_
    rw [hw ws fun j hj => hws j (List.mem_cons_of_mem _ hj), wipe_set_of (hws i List.mem_cons_self)]
theorem gV_ok {K : Fr8} {H : Hp} {S : Sto} {k : Nv → Sto → Prop} {Q : L2.St → Hp → Prop} {g : G} {ρ : Nv} {σ : L2.St} {x : PV} {v : V} (re : RepE K H ρ σ) (r : RepV K H x v) (hk : gP g x ρ S k)
    (c : ∀ ρ2 σ2, RepE K H ρ2 σ2 → k ρ2 S → (∀ ws : List Nat, (∀ j ∈ g.slots, j ∈ ws) → L2.wipe σ2 ws = L2.wipe σ ws) → Q σ2 H) : gV K g v σ H Q := by
  cases g with
  | nm i => exact c _ _ (re.set r) hk fun ws hws => wipe_set_of (hws i (by simp [G.slots]))
  | tup is =>
    unfold gP at hk
    dsimp only at hk
    split at hk
    · cases r with
      | @tup _ a vs h1 h2 =>
      exact ⟨a, vs, rfl, h1, by rw [← h2.length]; exact hk.1, gNms_ok is ρ σ _ vs re h2 hk.1 hk.2 c⟩
    · exact hk.elim
theorem pgs_nms {X : Cx} (hN : X.N.Nodup) : ∀ (is : List Nat) (es : List Expr), es.length = is.length → (∀ (j : Nat) (i : Nat) (e : Expr), is[j]? = some i → es[j]? = some e → ∃ x pos, e = .Name x pos ∧ X.N[i]? = some x ∧ Loc X.env.scope x ∧ (X.fn x = true ∨ X.env.scope.names.lookup x = some .local)) → PGs X es (gNms is)
  | [], [], _, _ => pgs_nil
  | [], _ :: _, h, _ => by simp at h
  | _ :: _, [], h, _ => by simp at h
  | i :: is, e :: es, hl, h => by
    obtain ⟨x, pos, rfl, h1, h2, h3⟩ := h 0 i e rfl rfl
    exact pgs_cons (pg_name hN h1 h2 h3) (pgs_nms hN is es (by simpa using hl) fun j i' e' a b => h (j + 1) i' e' (by simpa using a) (by simpa using b)) rfl
section
variable {X : Cx} {a b d tg iter elt : Expr} {es : List Expr} {pos : Pos} {ta tb td te : PTE} {t : PTA}
/-! ### comprehensions -/
def lcB (g : G) (vs : List Nat) (ρ : Nv) (tc : PTT) (te : PTE) : PV → Sto → (Option PV → Sto → Prop) → Prop :=
  fun x S k => gP g x (wipeP ρ vs) S fun ρ2 S2 => tc ρ2 S2 fun b S3 => if b = true then te ρ2 S3 fun y S4 => k (some y) S4 else k none S3
theorem wipe_wipe {σ : L2.St} (vs : List Nat) : L2.wipe (L2.wipe σ vs) vs = L2.wipe σ vs := by
  have : ∀ (us : List Nat), L2.wipe (L2.wipe σ us) us = L2.wipe σ us := by
    intro us
    have key : ∀ (us ws : List Nat), (∀ j ∈ us, j ∈ ws) → L2.wipe (L2.wipe σ ws) us = L2.wipe σ ws := by
      intro us
      induction us with
      | nil => intro ws _; rfl
      | cons u us ih =>
        intro ws hws
        show (L2.wipe (L2.wipe σ ws) us).set u none = L2.wipe σ ws
        rw [ih ws fun j hj => hws j (List.mem_cons_of_mem _ hj)]
        have hu := hws u List.mem_cons_self
        have : ∀ (ws : List Nat), u ∈ ws → (L2.wipe σ ws).set u none = L2.wipe σ ws := by
          intro ws
          induction ws with
          | nil => intro h; cases h
          | cons w ws ih2 =>
            intro hm
            show ((L2.wipe σ ws).set w none).set u none = (L2.wipe σ ws).set w none
            by_cases e : u = w
            · subst e; rw [List.set_set]
            · rw [List.set_comm _ _ (fun z => e z.symm), ih2 ((List.mem_cons.mp hm).resolve_left e)]
        exact this ws hu
    exact key us us fun _ h => h
  exact this vs
theorem lc_in {ti : PTI} {g : G} {tc : PTT} {vs : List Nat} {σ : L2.St} {H : Hp} {Q : VK} (hs : ∀ j ∈ g.slots, j ∈ vs)
    (h : liE X.K (fun ρ S Q => ti ρ S fun xs Gd S1 => ∀ D, S1 D = none → lcP D Gd (lcB g vs ρ tc te) (fun S => Q (.ref D) S) xs [] (updS S1 D (.lst []))) σ H Q) :
    tLc (liI X.K ti) (gV X.K g) (liT X.K tc) (liE X.K te) vs σ H Q := by
  obtain ⟨ρ, S, Q0, re, rs, h, c⟩ := h
  refine ⟨ρ, S, _, re, rs, h, fun xs Gd S1 H1 J q t1 s1 good => ?_⟩
  intro D hD
  have q := q D (s1.free hD)
  refine ⟨fun i m H' => m = xs.length - i ∧ i ≤ xs.length ∧ ∃ acc S', TExt X.K H1 H' ∧ RepS X.K S' H' ∧ lcP D Gd (lcB g vs ρ tc te) (fun S => Q0 (.ref D) S) (xs.drop i) acc S', ⟨xs.length, by simp, Nat.zero_le _, [], _, TExt.new hD, s1.new (o := .lst []) hD ⟨[], upd_same, .nil⟩, q⟩, ?_⟩
  rintro i m H' ⟨rfl, hi, acc, S', t', s', w⟩
  by_cases hlt : i < xs.length
  · obtain ⟨y, hy⟩ := get_lt hlt
    have ed : xs.drop i = y :: xs.drop (i + 1) := by
      rw [List.drop_eq_getElem_cons hlt]
      rw [List.getElem?_eq_getElem hlt] at hy
      cases hy; rfl
    rw [ed] at w
    obtain ⟨wg, w⟩ := w
    refine .inr ⟨good.go i S' H' t'.z s' wg hlt, fun H2 => ∃ acc S2, TExt X.K H1 H2 ∧ RepS X.K S2 H2 ∧ lcP D Gd (lcB g vs ρ tc te) (fun S => Q0 (.ref D) S) (xs.drop (i + 1)) acc S2,
      fun H2 ⟨acc, S2, t2, s2, w2⟩ => ⟨xs.length - (i + 1), by omega, rfl, by omega, acc, S2, t2, s2, w2⟩, fun xv H2 yl => ?_⟩
    obtain ⟨z, hz, t2, rz, keep⟩ := good.yld i S' H' xv H2 t'.z s' wg hlt yl
    rw [hy] at hz
    cases hz
    have re2 : RepE X.K H2 (wipeP ρ vs) (L2.wipe σ vs) := (re.mono (t1.trans (t'.trans t2))).wipes vs
    refine gV_ok re2 rz w fun ρ2 σ2 re3 w2 hw => ⟨?_, ?_⟩
    · rw [hw vs hs]
      -- wiping twice
      have : ∀ (us : List Nat), L2.wipe (L2.wipe σ us) us = L2.wipe σ us := by
        intro us
        have key : ∀ (us ws : List Nat), (∀ j ∈ us, j ∈ ws) → L2.wipe (L2.wipe σ ws) us = L2.wipe σ ws := by
          intro us
          induction us with
          | nil => intro ws _; rfl
          | cons u us ih =>
            intro ws hws
            show (L2.wipe (L2.wipe σ ws) us).set u none = L2.wipe σ ws
            rw [ih ws fun j hj => hws j (List.mem_cons_of_mem _ hj)]
            have hu := hws u List.mem_cons_self
            have : ∀ (ws : List Nat), u ∈ ws → (L2.wipe σ ws).set u none = L2.wipe σ ws := by
              intro ws
              induction ws with
              | nil => intro h; cases h
              | cons w ws ih2 =>
                intro hm
                show ((L2.wipe σ ws).set w none).set u none = (L2.wipe σ ws).set w none
                by_cases e : u = w
                · subst e; rw [List.set_set]
                · rw [List.set_comm _ _ (fun z => e z.symm), ih2 ((List.mem_cons.mp hm).resolve_left e)]
            exact this ws hu
        exact key us us fun _ h => h
      exact this vs
    · refine ⟨ρ2, S', _, re3, keep S' s', w2, fun b S3 H3 q3 t3 s3 => ?_⟩
      have tt : TExt X.K H1 H3 := t'.trans (t2.trans t3)
      cases b with
      | false =>
        simp only [Bool.false_eq_true, if_false] at q3 ⊢
        obtain ⟨S4, sub, q3⟩ := q3
        exact ⟨acc, S4, tt, s3.sub sub, q3⟩
      | true =>
        simp only [if_true] at q3 ⊢
        refine ⟨ρ2, S3, _, re3.mono t3, s3, q3, fun y S4 H4 v q4 t4 s4 r4 => ?_⟩
        obtain ⟨S5, sub, e5, hlen, q5⟩ := q4
        obtain ⟨ws, h1, h2⟩ := (s4.sub sub).lst e5
        have tu : TExt X.K H4 (upd H4 D (.lst (ws ++ [v]))) := TExt.set h1 trivial
        exact ⟨ws, h1, by rw [← h2.length]; exact hlen, acc ++ [y], _, (tt.trans t4).trans tu, (s4.sub sub).set (o := .lst (acc ++ [y])) h1 trivial ⟨_, upd_same, (h2.app (.cons r4 .nil)).mono tu⟩, q5⟩
  · have e : i = xs.length := by omega
    subst e
    rw [List.drop_length] at w
    exact .inl ⟨good.stop S' H' t'.z s' w.1, c _ _ _ _ w.2 (t1.trans t') s' (.ref D)⟩
theorem lf_in {ti : PTI} {g : G} {tc : PTT} {vs : List Nat} {σ : L2.St} {H : Hp} {Q : VK} (hs : ∀ j ∈ g.slots, j ∈ vs)
    (h : liE X.K (fun ρ S Q => ti ρ S fun xs Gd S1 => lfP Gd (lcB g vs ρ tc te) Q xs [] S1) σ H Q) :
    tLc (liI X.K ti) (gV X.K g) (lkT (liT X.K tc)) (lkE (liE X.K te)) vs σ H (lckQ Q) := by
  obtain ⟨ρ, S, Q0, re, rs, h, c⟩ := h
  refine ⟨ρ, S, _, re, rs, h, fun xs Gd S1 H1 J q t1 s1 good => ?_⟩
  intro D hD
  refine ⟨fun i m H' => m = xs.length - i ∧ i ≤ xs.length ∧ ∃ acc ws S', TExt X.K H1 H' ∧ RepS X.K S' H' ∧ S' D = none ∧ H' D = some (.lst ws) ∧ RepVs X.K H' acc ws ∧ lfP Gd (lcB g vs ρ tc te) Q0 (xs.drop i) acc S', ⟨xs.length, by simp, Nat.zero_le _, [], [], _, TExt.new hD, s1.newT hD, s1.free hD, upd_same, .nil, q⟩, ?_⟩
  rintro i m H' ⟨rfl, hi, acc, ws, S', t', s', nD, eD, rA, w⟩
  by_cases hlt : i < xs.length
  · obtain ⟨y, hy⟩ := get_lt hlt
    have ed : xs.drop i = y :: xs.drop (i + 1) := by
      rw [List.drop_eq_getElem_cons hlt]
      rw [List.getElem?_eq_getElem hlt] at hy
      cases hy; rfl
    rw [ed] at w
    obtain ⟨wg, w⟩ := w
    refine .inr ⟨good.go i S' H' t'.z s' wg hlt, fun H2 => ∃ acc ws S2, TExt X.K H1 H2 ∧ RepS X.K S2 H2 ∧ S2 D = none ∧ H2 D = some (.lst ws) ∧ RepVs X.K H2 acc ws ∧ lfP Gd (lcB g vs ρ tc te) Q0 (xs.drop (i + 1)) acc S2,
      fun H2 ⟨acc, ws, S2, t2, s2, n2, e2, r2, w2⟩ => ⟨xs.length - (i + 1), by omega, rfl, by omega, acc, ws, S2, t2, s2, n2, e2, r2, w2⟩, fun xv H2 yl => ?_⟩
    obtain ⟨z, hz, t2, rz, keep⟩ := good.yld i S' H' xv H2 t'.z s' wg hlt yl
    rw [hy] at hz
    cases hz
    -- the list itself stays while the next item is taken
    have kD : RepS X.K (updS (fun _ => none) D (.lst acc)) H2 := keep _ fun a o e => by
      by_cases ha : a = D
      · subst ha; rw [updS_same] at e; cases e; exact ⟨ws, eD, rA⟩
      · rw [updS_ne ha] at e; cases e
    obtain ⟨ws2, eD2, rA2⟩ := kD.lst updS_same
    have re2 : RepE X.K H2 (wipeP ρ vs) (L2.wipe σ vs) := (re.mono (t1.trans (t'.trans t2))).wipes vs
    refine gV_ok re2 rz w fun ρ2 σ2 re3 w2 hw => ⟨?_, ?_⟩
    · rw [hw vs hs]; exact wipe_wipe vs
    · refine ⟨D, ws2, eD2, fun od => ?_⟩
      have s2 := keep S' s'
      have tl : TExt X.K H2 (upd H2 D (lkd od ws2)) := TExt.set eD2 trivial
      refine ⟨ρ2, S', _, re3.mono tl, s2.lk nD eD2 trivial, w2, fun b S3 H3 q3 t3 s3 => ?_⟩
      have e3 : H3 D = some (lkd od ws2) := t3.lk _ _ _ upd_same
      have tt : TExt X.K H1 (upd H3 D (.lst ws2)) := TExt.lockd hD (t'.trans t2) eD2 t3 e3
      have tw : TExt0 X.K H3 (upd H3 D (.lst ws2)) := TExt0.unlk e3
      have s4 : RepS X.K S3 (upd H3 D (.lst ws2)) := s3.unlk e3
      have n3 : S3 D = none := by
        cases q : S3 D with
        | none => rfl
        | some o => exact absurd rfl (s3.ne_frz e3 q)
      have rA3 : RepVs X.K (upd H3 D (.lst ws2)) acc ws2 := ((rA2.mono tl).mono t3).mono0 tw
      refine ⟨e3, ?_⟩
      cases b with
      | false =>
        simp only [Bool.false_eq_true, if_false] at q3 ⊢
        exact ⟨acc, ws2, S3, tt, s4, n3, upd_same, rA3, q3⟩
      | true =>
        simp only [if_true] at q3 ⊢
        refine ⟨D, ws2, upd_same, fun od' => ?_⟩
        have tl' : TExt X.K (upd H3 D (.lst ws2)) (upd (upd H3 D (.lst ws2)) D (lkd od' ws2)) := TExt.set upd_same trivial
        refine ⟨ρ2, S3, _, ((((re3.mono tl).mono t3).mono0 tw).mono tl'), s4.lk n3 upd_same trivial, q3, fun y S4 H4 v q4 t4 s5 r4 => ?_⟩
        have e4 : H4 D = some (lkd od' ws2) := t4.lk _ _ _ upd_same
        have tt4 : TExt X.K H1 (upd H4 D (.lst ws2)) := TExt.lockd hD tt upd_same t4 e4
        have tw4 : TExt0 X.K H4 (upd H4 D (.lst ws2)) := TExt0.unlk e4
        have n4 : S4 D = none := by
          cases q : S4 D with
          | none => rfl
          | some o => exact absurd rfl (s5.ne_frz e4 q)
        have rA4 : RepVs X.K (upd H4 D (.lst ws2)) acc ws2 := ((rA3.mono tl').mono t4).mono0 tw4
        have ty : TExt X.K (upd H4 D (.lst ws2)) (upd (upd H4 D (.lst ws2)) D (.lst (ws2 ++ [v]))) := TExt.set upd_same trivial
        refine ⟨e4, ws2, upd_same, by rw [← rA4.length]; exact q4.1, acc ++ [y], ws2 ++ [v], S4, tt4.trans ty, (s5.unlk e4).lk n4 upd_same trivial, n4, upd_same, (rA4.app (.cons (r4.mono0 tw4) .nil)).mono ty, q4.2⟩
  · have e : i = xs.length := by omega
    subst e
    rw [List.drop_length] at w
    refine .inl ⟨good.stop S' H' t'.z s' w.1, .inr ⟨D, .lst ws, rfl, eD, trivial, fun od => ?_⟩⟩
    have tf : TExt X.K H' (upd H' D (.frz od (.lst ws))) := TExt.set eD trivial
    exact c _ _ _ _ w.2 (t1.trans (t'.trans tf)) (s'.lk nD eD trivial) (.rol (.inl ⟨od, upd_same⟩) (rA.mono tf))
abbrev Blk (X : Cx) (scope : Scope) (P : Cx → Prop) : Prop := ∀ (s : Shared) (H : Hp) (C : Addr) (cl : List (Str × Addr)) (fp : List Addr), P (X.blk s H scope (compEnvC scope cl C X.env) fp)
theorem le_lc {ti : PTI} {g : G} {tc : PTT} {scope : Scope} {own : List (Str × Nat)} {ifs : List Expr} (hc : X.calm = true) (hN : X.N.Nodup) (hs : ∀ j ∈ g.slots, j ∈ own.map (·.2)) (hi : LI X tg iter ti) (ok : BlkOk X.N X.env.scope scope own)
    (hg : Blk X scope fun Y => PG Y tg (gV X.K g)) (ht : Blk X scope fun Y => PTs Y ifs (liT X.K tc)) (he : Blk X scope fun Y => LE Y elt te) (hf : ∀ x, foldedSetIterable iter X.env x = pure x) :
    LE X (.ListComp elt [⟨tg, iter, ifs, 0⟩] scope pos) (fun ρ S Q => ti ρ S fun xs Gd S1 => ∀ D, S1 D = none → lcP D Gd (lcB g (own.map (·.2)) ρ tc te) (fun S => Q (.ref D) S) xs [] (updS S1 D (.lst []))) :=
  peW (pe_lc (te := liE X.K te) (tt := liT X.K tc) (g := gV X.K g) hc hN hi ok hg ht he hf) fun σ H Q h => lc_in hs h
theorem liI_post {K : Fr8} {t : PTI} {σ : L2.St} {H : Hp} {R R' : It → Hp → Prop} (h : liI K t σ H R) (w : ∀ J H, R J H → R' J H) : liI K t σ H R' := by
  obtain ⟨ρ, S, R0, re, rs, h, c⟩ := h
  exact ⟨ρ, S, R0, re, rs, h, fun xs Gd S' H' J q t s good => w _ _ (c xs Gd S' H' J q t s good)⟩
theorem tLc_post {ti : PTI} {g : TG} {tt : TT} {te : TE} {vs : List Nat} {σ : L2.St} {H : Hp} {Q Q' : VK} (h : tLc (liI X.K ti) g tt te vs σ H Q) (w : ∀ v H, Q v H → Q' v H) : tLc (liI X.K ti) g tt te vs σ H Q' := by
  refine liI_post h fun J H1 h D hD => ?_
  obtain ⟨W, h0, h⟩ := h D hD
  refine ⟨W, h0, fun i m H hw => ?_⟩
  rcases h i m H hw with ⟨a, b⟩ | h
  · exact .inl ⟨a, w _ _ b⟩
  · exact .inr h
theorem le_lcF {ti : PTI} {g : G} {tc : PTT} {scope : Scope} {own : List (Str × Nat)} {ifs : List Expr} (hc : X.calm = true) (hN : X.N.Nodup) (hs : ∀ j ∈ g.slots, j ∈ own.map (·.2)) (hi : LI X tg iter ti) (ok : BlkOk X.N X.env.scope scope own)
    (hg : Blk X scope fun Y => PG Y tg (gV X.K g)) (ht : Blk X scope fun Y => PTs Y ifs (liT X.K tc)) (he : Blk X scope fun Y => LE Y elt te) (hf : ∀ x, foldedSetIterable iter X.env x = pure x) :
    LE X (.ListComp elt [⟨tg, iter, ifs, 0⟩] scope pos) (fun ρ S Q => ti ρ S fun xs Gd S1 => lfP Gd (lcB g (own.map (·.2)) ρ tc te) Q xs [] S1) :=
  peW (pe_lck (pe_lc (te := lkE (liE X.K te)) (tt := lkT (liT X.K tc)) (g := gV X.K g) hc hN hi ok hg (fun s H C cl fp => pts_lk (ht s H C cl fp)) (fun s H C cl fp => pe_lk (he s H C cl fp)) hf)) fun σ H Q h => lf_in hs h
/-! ### two clauses -/
def lkI (t : TI) : TI := fun σ H R => ∃ d vs, H d = some (.lst vs) ∧ ∀ od, t σ (upd H d (lkd od vs)) fun J H' => H' d = some (lkd od vs) ∧ R J (upd H' d (.lst vs))
theorem pi_lk {tg e : Expr} {t : TI} (h : L2.PI X tg e t) : L2.PI X tg e (lkI t) := by
  refine ⟨fun pins s σ H R I hw => ?_⟩
  obtain ⟨d, vs, hd, hw⟩ := hw
  obtain ⟨od, I1⟩ := Inv.lock2 I hd
  refine thn (h.run pins s σ _ _ I1 (hw od)) fun v s1 q => thn q fun itv s2 q => ?_
  obtain ⟨it, fp, tn, J, H', e1, I2, T, st, fo, e2, q⟩ := q
  refine ⟨it, fp, tn, J, _, e1, Inv.unlock2 I2 e2 (I.nofrz hd trivial), T, st, fun b hb => ?_, q⟩
  obtain ⟨a1, a2⟩ := fo b hb
  exact ⟨by rw [upd_ne (fun z => by rw [z, e2] at a1; cases a1)]; exact a1, a2⟩
def lc2B (g : G) (vs : List Nat) (ρ : Nv) (tc : PTT) (ti1 : PTI) (g1 : G) (vs1 : List Nat) (tc1 : PTT) (te : PTE) : PV → List PV → Sto → (List PV → Sto → Prop) → Prop :=
  fun x acc S k => gP g x (wipeP ρ vs) S fun ρ2 S2 => tc ρ2 S2 fun b S3 => if b = true then ti1 ρ2 S3 fun ys Gd1 S4 => lf1P Gd1 (lcB g1 vs1 ρ2 tc1 te) k ys acc S4 else k acc S3
theorem lf2_in {ti ti1 : PTI} {g g1 : G} {tc tc1 : PTT} {vs vs1 : List Nat} {σ : L2.St} {H : Hp} {Q : VK} (hs : ∀ j ∈ g.slots, j ∈ vs) (hs1 : ∀ j ∈ g1.slots, j ∈ vs1)
    (h : liE X.K (fun ρ S Q => ti ρ S fun xs Gd S1 => lf2P Gd (lc2B g vs ρ tc ti1 g1 vs1 tc1 te) Q xs [] S1) σ H Q) :
    tLc2 (liI X.K ti) (gV X.K g) (lkT (liT X.K tc)) (lkI (liI X.K ti1)) (gV X.K g1) (lkT (liT X.K tc1)) (lkE (liE X.K te)) vs vs1 σ H (lckQ Q) := by
  obtain ⟨ρ, S, Q0, re, rs, h, c⟩ := h
  refine ⟨ρ, S, _, re, rs, h, fun xs Gd S1 H1 J q t1 s1 good => ?_⟩
  intro D hD
  refine ⟨fun i m H' => m = xs.length - i ∧ i ≤ xs.length ∧ ∃ acc ws S', TExt X.K H1 H' ∧ RepS X.K S' H' ∧ S' D = none ∧ H' D = some (.lst ws) ∧ RepVs X.K H' acc ws ∧ lf2P Gd (lc2B g vs ρ tc ti1 g1 vs1 tc1 te) Q0 (xs.drop i) acc S', ⟨xs.length, by simp, Nat.zero_le _, [], [], _, TExt.new hD, s1.newT hD, s1.free hD, upd_same, .nil, q⟩, ?_⟩
  rintro i m H' ⟨rfl, hi, acc, ws, S', t', s', nD, eD, rA, w⟩
  by_cases hlt : i < xs.length
  · obtain ⟨y, hy⟩ := get_lt hlt
    have ed : xs.drop i = y :: xs.drop (i + 1) := by
      rw [List.drop_eq_getElem_cons hlt]
      rw [List.getElem?_eq_getElem hlt] at hy
      cases hy; rfl
    rw [ed] at w
    obtain ⟨wg, w⟩ := w
    refine .inr ⟨good.go i S' H' t'.z s' wg hlt, fun H2 => ∃ acc ws S2, TExt X.K H1 H2 ∧ RepS X.K S2 H2 ∧ S2 D = none ∧ H2 D = some (.lst ws) ∧ RepVs X.K H2 acc ws ∧ lf2P Gd (lc2B g vs ρ tc ti1 g1 vs1 tc1 te) Q0 (xs.drop (i + 1)) acc S2,
      fun H2 ⟨acc, ws, S2, t2, s2, n2, e2, r2, w2⟩ => ⟨xs.length - (i + 1), by omega, rfl, by omega, acc, ws, S2, t2, s2, n2, e2, r2, w2⟩, fun xv H2 yl => ?_⟩
    obtain ⟨z, hz, t2, rz, keep⟩ := good.yld i S' H' xv H2 t'.z s' wg hlt yl
    rw [hy] at hz
    cases hz
    have kD : RepS X.K (updS (fun _ => none) D (.lst acc)) H2 := keep _ fun a o e => by
      by_cases ha : a = D
      · subst ha; rw [updS_same] at e; cases e; exact ⟨ws, eD, rA⟩
      · rw [updS_ne ha] at e; cases e
    obtain ⟨ws2, eD2, rA2⟩ := kD.lst updS_same
    have re2 : RepE X.K H2 (wipeP ρ vs) (L2.wipe σ vs) := (re.mono (t1.trans (t'.trans t2))).wipes vs
    refine gV_ok re2 rz w fun ρ2 σ2 re3 w2 hw => ⟨?_, ?_⟩
    · rw [hw vs hs]; exact wipe_wipe vs
    · refine ⟨D, ws2, eD2, fun od => ?_⟩
      have s2 := keep S' s'
      have tl : TExt X.K H2 (upd H2 D (lkd od ws2)) := TExt.set eD2 trivial
      refine ⟨ρ2, S', _, re3.mono tl, s2.lk nD eD2 trivial, w2, fun b S3 H3 q3 t3 s3 => ?_⟩
      have e3 : H3 D = some (lkd od ws2) := t3.lk _ _ _ upd_same
      have tt : TExt X.K H1 (upd H3 D (.lst ws2)) := TExt.lockd hD (t'.trans t2) eD2 t3 e3
      have tw : TExt0 X.K H3 (upd H3 D (.lst ws2)) := TExt0.unlk e3
      have s4 : RepS X.K S3 (upd H3 D (.lst ws2)) := s3.unlk e3
      have n3 : S3 D = none := by
        cases q : S3 D with
        | none => rfl
        | some o => exact absurd rfl (s3.ne_frz e3 q)
      have rA3 : RepVs X.K (upd H3 D (.lst ws2)) acc ws2 := ((rA2.mono tl).mono t3).mono0 tw
      refine ⟨e3, ?_⟩
      cases b with
      | false =>
        simp only [Bool.false_eq_true, if_false] at q3 ⊢
        exact ⟨acc, ws2, S3, tt, s4, n3, upd_same, rA3, q3⟩
      | true =>
        simp only [if_true] at q3 ⊢
        refine ⟨D, ws2, upd_same, fun od' => ?_⟩
        have tl' : TExt X.K (upd H3 D (.lst ws2)) (upd (upd H3 D (.lst ws2)) D (lkd od' ws2)) := TExt.set upd_same trivial
        have reI := (((re3.mono tl).mono t3).mono0 tw).mono tl'
        refine ⟨ρ2, S3, _, reI, s4.lk n3 upd_same trivial, q3, fun ys Gd1 S4 H4 J1 q4 t4 s5 good1 => ?_⟩
        have e4 : H4 D = some (lkd od' ws2) := t4.lk _ _ _ upd_same
        have tt4 : TExt X.K H1 (upd H4 D (.lst ws2)) := TExt.lockd hD tt upd_same t4 e4
        have tw4 : TExt0 X.K H4 (upd H4 D (.lst ws2)) := TExt0.unlk e4
        have n4 : S4 D = none := by
          cases q : S4 D with
          | none => rfl
          | some o => exact absurd rfl (s5.ne_frz e4 q)
        have rA4 : RepVs X.K (upd H4 D (.lst ws2)) acc ws2 := ((rA3.mono tl').mono t4).mono0 tw4
        refine ⟨e4, ?_⟩
        refine ⟨fun j k Hc => k = ys.length - j ∧ j ≤ ys.length ∧ ∃ acc ws Sc, TExt X.K H1 Hc ∧ TExt0 X.K H4 Hc ∧ RepS X.K Sc Hc ∧ Sc D = none ∧ Hc D = some (.lst ws) ∧ RepVs X.K Hc acc ws ∧ lf1P Gd1 (lcB g1 vs1 ρ2 tc1 te) (fun acc2 S2 => lf2P Gd (lc2B g vs ρ tc ti1 g1 vs1 tc1 te) Q0 (xs.drop (i + 1)) acc2 S2) (ys.drop j) acc Sc,
          ⟨ys.length, by simp, Nat.zero_le _, acc, ws2, S4, tt4, tw4, s5.unlk e4, n4, upd_same, rA4, q4⟩, ?_⟩
        rintro j k Hc ⟨rfl, hj, acc, ws, Sc, tc', tz, sc, nc, ec, rc, wc⟩
        by_cases hjl : j < ys.length
        · obtain ⟨y1, hy1⟩ := get_lt hjl
          have ed1 : ys.drop j = y1 :: ys.drop (j + 1) := by
            rw [List.drop_eq_getElem_cons hjl]
            rw [List.getElem?_eq_getElem hjl] at hy1
            cases hy1; rfl
          rw [ed1] at wc
          obtain ⟨wg1, wc⟩ := wc
          refine .inr ⟨good1.go j Sc Hc tz sc wg1 hjl, fun Hd => ∃ acc ws Sd, TExt X.K H1 Hd ∧ TExt0 X.K H4 Hd ∧ RepS X.K Sd Hd ∧ Sd D = none ∧ Hd D = some (.lst ws) ∧ RepVs X.K Hd acc ws ∧ lf1P Gd1 (lcB g1 vs1 ρ2 tc1 te) (fun acc2 S2 => lf2P Gd (lc2B g vs ρ tc ti1 g1 vs1 tc1 te) Q0 (xs.drop (i + 1)) acc2 S2) (ys.drop (j + 1)) acc Sd,
            fun Hd ⟨acc, ws, Sd, a1, a2, a3, a4, a5, a6, a7⟩ => ⟨ys.length - (j + 1), by omega, rfl, by omega, acc, ws, Sd, a1, a2, a3, a4, a5, a6, a7⟩, fun xv1 Hd yl1 => ?_⟩
          obtain ⟨z1, hz1, td, rz1, keep1⟩ := good1.yld j Sc Hc xv1 Hd tz sc wg1 hjl yl1
          rw [hy1] at hz1
          cases hz1
          have kD1 : RepS X.K (updS (fun _ => none) D (.lst acc)) Hd := keep1 _ fun a o e => by
            by_cases ha : a = D
            · subst ha; rw [updS_same] at e; cases e; exact ⟨ws, ec, rc⟩
            · rw [updS_ne ha] at e; cases e
          obtain ⟨wd, eDd, rAd⟩ := kD1.lst updS_same
          have reD : RepE X.K Hd (wipeP ρ2 vs1) (L2.wipe σ2 vs1) := (((reI.mono t4).mono0 tz).mono td).wipes vs1
          refine gV_ok reD rz1 wc fun ρ3 σ3 re5 w5 hw5 => ⟨?_, ?_⟩
          · rw [hw5 vs1 hs1]; exact wipe_wipe vs1
          · refine ⟨D, wd, eDd, fun od2 => ?_⟩
            have sd := keep1 Sc sc
            have tl2 : TExt X.K Hd (upd Hd D (lkd od2 wd)) := TExt.set eDd trivial
            refine ⟨ρ3, Sc, _, re5.mono tl2, sd.lk nc eDd trivial, w5, fun b S6 H6 q6 t6 s6 => ?_⟩
            have e6 : H6 D = some (lkd od2 wd) := t6.lk _ _ _ upd_same
            have tt6 : TExt X.K H1 (upd H6 D (.lst wd)) := TExt.lockd hD (tc'.trans td) eDd t6 e6
            have tw6 : TExt0 X.K H6 (upd H6 D (.lst wd)) := TExt0.unlk e6
            have tz6 : TExt0 X.K H4 (upd H6 D (.lst wd)) := (tz.trans td.z).trans ((tl2.z.trans t6.z).trans tw6)
            have s7 : RepS X.K S6 (upd H6 D (.lst wd)) := s6.unlk e6
            have n6 : S6 D = none := by
              cases q : S6 D with
              | none => rfl
              | some o => exact absurd rfl (s6.ne_frz e6 q)
            have rA6 : RepVs X.K (upd H6 D (.lst wd)) acc wd := ((rAd.mono tl2).mono t6).mono0 tw6
            refine ⟨e6, ?_⟩
            cases b with
            | false =>
              simp only [Bool.false_eq_true, if_false] at q6 ⊢
              exact ⟨acc, wd, S6, tt6, tz6, s7, n6, upd_same, rA6, q6⟩
            | true =>
              simp only [if_true] at q6 ⊢
              refine ⟨D, wd, upd_same, fun od3 => ?_⟩
              have tl3 : TExt X.K (upd H6 D (.lst wd)) (upd (upd H6 D (.lst wd)) D (lkd od3 wd)) := TExt.set upd_same trivial
              refine ⟨ρ3, S6, _, ((((re5.mono tl2).mono t6).mono0 tw6).mono tl3), s7.lk n6 upd_same trivial, q6, fun v7 S7 H7 u7 q7 t7 s8 r7 => ?_⟩
              have e7 : H7 D = some (lkd od3 wd) := t7.lk _ _ _ upd_same
              have tt7 : TExt X.K H1 (upd H7 D (.lst wd)) := TExt.lockd hD tt6 upd_same t7 e7
              have tw7 : TExt0 X.K H7 (upd H7 D (.lst wd)) := TExt0.unlk e7
              have tz7 : TExt0 X.K H4 (upd H7 D (.lst wd)) := tz6.trans ((tl3.z.trans t7.z).trans tw7)
              have n7 : S7 D = none := by
                cases q : S7 D with
                | none => rfl
                | some o => exact absurd rfl (s8.ne_frz e7 q)
              have rA7 : RepVs X.K (upd H7 D (.lst wd)) acc wd := ((rA6.mono tl3).mono t7).mono0 tw7
              have ty : TExt X.K (upd H7 D (.lst wd)) (upd (upd H7 D (.lst wd)) D (.lst (wd ++ [u7]))) := TExt.set upd_same trivial
              refine ⟨e7, wd, upd_same, by rw [← rA7.length]; exact q7.1, acc ++ [v7], wd ++ [u7], S7, tt7.trans ty, tz7.trans ty.z, (s8.unlk e7).lk n7 upd_same trivial, n7, upd_same, (rA7.app (.cons (r7.mono0 tw7) .nil)).mono ty, q7.2⟩
        · have e : j = ys.length := by omega
          subst e
          rw [List.drop_length] at wc
          exact .inl ⟨good1.stop Sc Hc tz sc wc.1, acc, ws, Sc, tc', sc, nc, ec, rc, wc.2⟩
  · have e : i = xs.length := by omega
    subst e
    rw [List.drop_length] at w
    refine .inl ⟨good.stop S' H' t'.z s' w.1, .inr ⟨D, .lst ws, rfl, eD, trivial, fun od => ?_⟩⟩
    have tf : TExt X.K H' (upd H' D (.frz od (.lst ws))) := TExt.set eD trivial
    exact c _ _ _ _ w.2 (t1.trans (t'.trans tf)) (s'.lk nD eD trivial) (.rol (.inl ⟨od, upd_same⟩) (rA.mono tf))
theorem tLc2_post {ti : PTI} {g g1 : TG} {tt tt1 : TT} {wi1 : TI} {te : TE} {vs vs1 : List Nat} {σ : L2.St} {H : Hp} {Q Q' : VK} (h : tLc2 (liI X.K ti) g tt wi1 g1 tt1 te vs vs1 σ H Q) (w : ∀ v H, Q v H → Q' v H) : tLc2 (liI X.K ti) g tt wi1 g1 tt1 te vs vs1 σ H Q' := by
  refine liI_post h fun J H1 h D hD => ?_
  obtain ⟨W, h0, h⟩ := h D hD
  refine ⟨W, h0, fun i m H hw => ?_⟩
  rcases h i m H hw with ⟨a, b⟩ | h
  · exact .inl ⟨a, w _ _ b⟩
  · exact .inr h
theorem le_lccF {ti ti1 : PTI} {g g1 : G} {tc tc1 : PTT} {tg1 iter1 : Expr} {scope : Scope} {own : List (Str × Nat)} {vs1 : List Nat} {ifs ifs1 : List Expr} (hc : X.calm = true) (hN : X.N.Nodup) (hs : ∀ j ∈ g.slots, j ∈ own.map (·.2)) (hs1 : ∀ j ∈ g1.slots, j ∈ vs1) (hi : LI X tg iter ti) (ok : BlkOk X.N X.env.scope scope own) (hv : ∀ i ∈ vs1, i ∈ own.map (·.2))
    (hg : Blk X scope fun Y => PG Y tg (gV X.K g)) (ht : Blk X scope fun Y => PTs Y ifs (liT X.K tc)) (hi1 : Blk X scope fun Y => L2.PI Y tg1 iter1 (liI X.K ti1)) (hg1 : Blk X scope fun Y => PG Y tg1 (gV X.K g1)) (ht1 : Blk X scope fun Y => PTs Y ifs1 (liT X.K tc1))
    (he : Blk X scope fun Y => LE Y elt te) (hf : ∀ x, foldedSetIterable iter X.env x = pure x) (hf1 : ∀ env x, foldedSetIterable iter1 env x = pure x) :
    LE X (.ListComp elt [⟨tg, iter, ifs, 0⟩, ⟨tg1, iter1, ifs1, 0⟩] scope pos) (fun ρ S Q => ti ρ S fun xs Gd S1 => lf2P Gd (lc2B g (own.map (·.2)) ρ tc ti1 g1 vs1 tc1 te) Q xs [] S1) :=
  peW (pe_lck (pe_lc2 (te := lkE (liE X.K te)) (tt := lkT (liT X.K tc)) (wi1 := lkI (liI X.K ti1)) (tt1 := lkT (liT X.K tc1)) (g := gV X.K g) (g1 := gV X.K g1) hc hN hi ok hv hg (fun s H C cl fp => pts_lk (ht s H C cl fp)) (fun s H C cl fp => pi_lk (hi1 s H C cl fp)) hg1 (fun s H C cl fp => pts_lk (ht1 s H C cl fp)) (fun s H C cl fp => pe_lk (he s H C cl fp)) hf hf1)) fun σ H Q h => lf2_in hs hs1 h
/-! ### statements -/
theorem ls_set {i : Nat} {x : Str} {pos' : Pos} (hN : X.N.Nodup) (hi : X.N[i]? = some x) (hx : Loc X.env.scope x) (hf : X.fn x = true ∨ X.env.scope.names.lookup x = some .local) (hs : swapsWith a (some (.Name x pos')) pos.line X.env = pure false) (ha : LE X a ta) :
    LS X (.Assign [.Name x pos'] a pos) (fun D ρ S => ta ρ S fun x S1 => D.nx (ρ.set i (some x)) S1) := by
  refine psW (ps_set hN hi hx ha hs hf) fun D σ H h => ?_
  obtain ⟨ρ, S, D0, re, rs, h, c⟩ := h
  exact ⟨ρ, S, _, re, rs, h, fun x S1 H1 v q t1 s1 r1 => c.nx _ _ _ _ q t1 s1 ((re.mono t1).set r1)⟩
theorem ls_setLc {i : Nat} {y : Str} {py spos : Pos} {ti : PTI} {g : G} {tc : PTT} {scope : Scope} {own : List (Str × Nat)} {ifs : List Expr} (hc : X.calm = true) (hN : X.N.Nodup) (hy : X.N[i]? = some y) (hyl : X.env.scope.names.lookup y = some .local)
    (hsw : swapsWith (.ListComp elt [⟨tg, iter, ifs, 0⟩] scope pos) (some (.Name y py)) spos.line X.env = pure true) (hs : ∀ j ∈ g.slots, j ∈ own.map (·.2)) (hi : LI X tg iter ti) (ok : BlkOk X.N X.env.scope scope own)
    (hg : Blk X scope fun Y => PG Y tg (gV X.K g)) (ht : Blk X scope fun Y => PTs Y ifs (liT X.K tc)) (he : Blk X scope fun Y => LE Y elt te) (hf : ∀ x, foldedSetIterable iter X.env x = pure x) :
    LS X (.Assign [.Name y py] (.ListComp elt [⟨tg, iter, ifs, 0⟩] scope pos) spos) (fun D ρ S => ti ρ S fun xs Gd S1 => ∀ L, S1 L = none → lcP L Gd (lcB g (own.map (·.2)) ρ tc te) (fun S => D.nx (ρ.set i (some (.ref L))) S) xs [] (updS S1 L (.lst []))) := by
  refine psW (ps_setLc (te := liE X.K te) (tt := liT X.K tc) (g := gV X.K g) hc hN hy hyl hsw hi ok hg ht he hf) fun D σ H h => ?_
  obtain ⟨ρ, S, D0, re, rs, h, c⟩ := h
  exact lc_in hs ⟨ρ, S, fun x S1 => D0.nx (ρ.set i (some x)) S1, re, rs, h, fun x S1 H1 v q t1 s1 r1 => c.nx _ _ _ _ q t1 s1 ((re.mono t1).set r1)⟩
theorem ls_setLcF {i : Nat} {y : Str} {py spos : Pos} {ti : PTI} {g : G} {tc : PTT} {scope : Scope} {own : List (Str × Nat)} {ifs : List Expr} (hc : X.calm = true) (hN : X.N.Nodup) (hy : X.N[i]? = some y) (hyl : X.env.scope.names.lookup y = some .local)
    (hsw : swapsWith (.ListComp elt [⟨tg, iter, ifs, 0⟩] scope pos) (some (.Name y py)) spos.line X.env = pure true) (hs : ∀ j ∈ g.slots, j ∈ own.map (·.2)) (hi : LI X tg iter ti) (ok : BlkOk X.N X.env.scope scope own)
    (hg : Blk X scope fun Y => PG Y tg (gV X.K g)) (ht : Blk X scope fun Y => PTs Y ifs (liT X.K tc)) (he : Blk X scope fun Y => LE Y elt te) (hf : ∀ x, foldedSetIterable iter X.env x = pure x) :
    LS X (.Assign [.Name y py] (.ListComp elt [⟨tg, iter, ifs, 0⟩] scope pos) spos) (fun D ρ S => ti ρ S fun xs Gd S1 => lfP Gd (lcB g (own.map (·.2)) ρ tc te) (fun x S => D.nx (ρ.set i (some x)) S) xs [] S1) := by
  refine psW (ps_lck (ps_setLc (te := lkE (liE X.K te)) (tt := lkT (liT X.K tc)) (g := gV X.K g) hc hN hy hyl hsw hi ok hg (fun s H C cl fp => pts_lk (ht s H C cl fp)) (fun s H C cl fp => pe_lk (he s H C cl fp)) hf)) fun D σ H h => ?_
  obtain ⟨ρ, S, D0, re, rs, h, c⟩ := h
  have key := lf_in (te := te) (Q := fun v H1 => D.nx (σ.set i (some v)) H1) hs ⟨ρ, S, fun x S1 => D0.nx (ρ.set i (some x)) S1, re, rs, h, fun x S1 H1 v q t1 s1 r1 => c.nx _ _ _ _ q t1 s1 ((re.mono t1).set r1)⟩
  refine tLc_post key fun v H1 q => ?_
  rcases q with q | ⟨a, u, rfl, e1, mu, q⟩
  · exact .inl q
  · exact .inr ⟨a, u, e1, mu, q⟩
theorem ls_setLccF {i : Nat} {y : Str} {py spos : Pos} {ti ti1 : PTI} {g g1 : G} {tc tc1 : PTT} {tg1 iter1 : Expr} {scope : Scope} {own : List (Str × Nat)} {vs1 : List Nat} {ifs ifs1 : List Expr} (hc : X.calm = true) (hN : X.N.Nodup) (hy : X.N[i]? = some y) (hyl : X.env.scope.names.lookup y = some .local)
    (hsw : swapsWith (.ListComp elt [⟨tg, iter, ifs, 0⟩, ⟨tg1, iter1, ifs1, 0⟩] scope pos) (some (.Name y py)) spos.line X.env = pure true) (hs : ∀ j ∈ g.slots, j ∈ own.map (·.2)) (hs1 : ∀ j ∈ g1.slots, j ∈ vs1) (hi : LI X tg iter ti) (ok : BlkOk X.N X.env.scope scope own) (hv : ∀ i ∈ vs1, i ∈ own.map (·.2))
    (hg : Blk X scope fun Y => PG Y tg (gV X.K g)) (ht : Blk X scope fun Y => PTs Y ifs (liT X.K tc)) (hi1 : Blk X scope fun Y => L2.PI Y tg1 iter1 (liI X.K ti1)) (hg1 : Blk X scope fun Y => PG Y tg1 (gV X.K g1)) (ht1 : Blk X scope fun Y => PTs Y ifs1 (liT X.K tc1))
    (he : Blk X scope fun Y => LE Y elt te) (hf : ∀ x, foldedSetIterable iter X.env x = pure x) (hf1 : ∀ env x, foldedSetIterable iter1 env x = pure x) :
    LS X (.Assign [.Name y py] (.ListComp elt [⟨tg, iter, ifs, 0⟩, ⟨tg1, iter1, ifs1, 0⟩] scope pos) spos) (fun D ρ S => ti ρ S fun xs Gd S1 => lf2P Gd (lc2B g (own.map (·.2)) ρ tc ti1 g1 vs1 tc1 te) (fun x S => D.nx (ρ.set i (some x)) S) xs [] S1) := by
  refine psW (ps_lck (ps_setLc2 (te := lkE (liE X.K te)) (tt := lkT (liT X.K tc)) (wi1 := lkI (liI X.K ti1)) (tt1 := lkT (liT X.K tc1)) (g := gV X.K g) (g1 := gV X.K g1) hc hN hy hyl hsw hi ok hv hg (fun s H C cl fp => pts_lk (ht s H C cl fp)) (fun s H C cl fp => pi_lk (hi1 s H C cl fp)) hg1 (fun s H C cl fp => pts_lk (ht1 s H C cl fp)) (fun s H C cl fp => pe_lk (he s H C cl fp)) hf hf1)) fun D σ H h => ?_
  obtain ⟨ρ, S, D0, re, rs, h, c⟩ := h
  have key := lf2_in (te := te) (Q := fun v H1 => D.nx (σ.set i (some v)) H1) hs hs1 ⟨ρ, S, fun x S1 => D0.nx (ρ.set i (some x)) S1, re, rs, h, fun x S1 H1 v q t1 s1 r1 => c.nx _ _ _ _ q t1 s1 ((re.mono t1).set r1)⟩
  refine tLc2_post key fun v H1 q => ?_
  rcases q with q | ⟨a, u, rfl, e1, mu, q⟩
  · exact .inl q
  · exact .inr ⟨a, u, e1, mu, q⟩
theorem ls_asg {g : G} {pos : Pos} (hg : PG X tg (gV X.K g)) (h1 : swapsWithSole [tg] a pos.line X.env = pure false) (h2 : swappedStores [tg] a X.env = pure none) (h3 : List.map (fun x => x.snd) (assignEach [tg] X.env) = [assign tg X.env]) (ha : LE X a ta) :
    LS X (.Assign [tg] a pos) (fun D ρ S => ta ρ S fun x S1 => gP g x ρ S1 D.nx) := by
  refine psW (ps_asg ha hg h1 h2 h3) fun D σ H h => ?_
  obtain ⟨ρ, S, D0, re, rs, h, c⟩ := h
  refine ⟨ρ, S, _, re, rs, h, fun x S1 H1 v q t1 s1 r1 => ?_⟩
  exact gV_ok (re.mono t1) r1 q fun ρ2 σ2 re2 k2 _ => c.nx _ _ _ _ k2 t1 s1 re2
theorem ls_par {i j : Nat} {x y : Str} {px py pt : Pos} {kt k2 : Nat} {pt2 : Pos} (hc : X.calm = true) (hN : X.N.Nodup) (hi : X.N[i]? = some x) (hj : X.N[j]? = some y) (hij : i ≠ j)
    (hx : X.env.scope.names.lookup x = some .local) (hy : X.env.scope.names.lookup y = some .local) (ha : LE X a ta) (hb : LE X b tb) (hs : starEach [a, b] X.env = (false, eval a X.env) :: starEach [b] X.env) (hs2 : starEach [b] X.env = [(false, eval b X.env)])
    (hw : swappedStores [.Tuple [.Name x px, .Name y py] kt pt] (.Tuple [a, b] k2 pt2) X.env = pure (some [x, y])) :
    LS X (.Assign [.Tuple [.Name x px, .Name y py] kt pt] (.Tuple [a, b] k2 pt2) pos) (fun D ρ S => ta ρ S fun x S1 => tb ρ S1 fun y S2 => D.nx ((ρ.set i (some x)).set j (some y)) S2) := by
  refine psW (ps_par hc hN hi hj hij hx hy (la_cons ha (la_cons hb la_nil (by rw [hs2]; rfl)) hs) hw rfl) fun D σ H h => ?_
  obtain ⟨ρ, S, D0, re, rs, h, c⟩ := h
  refine ⟨ρ, S, fun xs S2 => match xs with
    | [x, y] => D0.nx ((ρ.set i (some x)).set j (some y)) S2
    | _ => False, re, rs, h, fun xs S1 H1 vs q t1 s1 r1 => ?_⟩
  dsimp only at q
  split at q
  · obtain ⟨v, w, rfl, r, r'⟩ := R2' r1
    exact ⟨v, w, rfl, c.nx _ _ _ _ q t1 s1 (((re.mono t1).set r).set r')⟩
  · exact q.elim
theorem R3' {K : Fr8} {H : Hp} {x y z : PV} {vs : List V} (r : RepVs K H [x, y, z] vs) : ∃ u v w, vs = [u, v, w] ∧ RepV K H x u ∧ RepV K H y v ∧ RepV K H z w := by
  cases r with
  | cons r rs => obtain ⟨v, w, rfl, q, q'⟩ := R2' rs; exact ⟨_, v, w, rfl, r, q, q'⟩
theorem ls_par3 {i j l : Nat} {d : Expr} {td : PTE} {x y z : Str} {px py pz pt : Pos} {kt k2 : Nat} {pt2 : Pos} (hc : X.calm = true) (hN : X.N.Nodup) (hi : X.N[i]? = some x) (hj : X.N[j]? = some y) (hl : X.N[l]? = some z) (hij : i ≠ j) (hil : i ≠ l) (hjl : j ≠ l)
    (hx : X.env.scope.names.lookup x = some .local) (hy : X.env.scope.names.lookup y = some .local) (hz : X.env.scope.names.lookup z = some .local) (ha : LE X a ta) (hb : LE X b tb) (hd : LE X d td)
    (hs : starEach [a, b, d] X.env = (false, eval a X.env) :: starEach [b, d] X.env) (hs2 : starEach [b, d] X.env = (false, eval b X.env) :: starEach [d] X.env) (hs3 : starEach [d] X.env = [(false, eval d X.env)])
    (hw : swappedStores [.Tuple [.Name x px, .Name y py, .Name z pz] kt pt] (.Tuple [a, b, d] k2 pt2) X.env = pure (some [x, y, z])) :
    LS X (.Assign [.Tuple [.Name x px, .Name y py, .Name z pz] kt pt] (.Tuple [a, b, d] k2 pt2) pos) (fun D ρ S => ta ρ S fun x S1 => tb ρ S1 fun y S2 => td ρ S2 fun z S3 => D.nx (((ρ.set i (some x)).set j (some y)).set l (some z)) S3) := by
  refine psW (ps_par3 hc hN hi hj hl hij hil hjl hx hy hz (la_cons ha (la_cons hb (la_cons hd la_nil (by rw [hs3]; rfl)) hs2) hs) hw rfl) fun D σ H h => ?_
  obtain ⟨ρ, S, D0, re, rs, h, c⟩ := h
  refine ⟨ρ, S, fun xs S2 => match xs with
    | [x, y, z] => D0.nx (((ρ.set i (some x)).set j (some y)).set l (some z)) S2
    | _ => False, re, rs, h, fun xs S1 H1 vs q t1 s1 r1 => ?_⟩
  dsimp only at q
  split at q
  · obtain ⟨u, v, w, rfl, r, r', r''⟩ := R3' r1
    exact ⟨u, v, w, rfl, c.nx _ _ _ _ q t1 s1 ((((re.mono t1).set r).set r').set r'')⟩
  · exact q.elim
theorem putP_ok {K : Fr8} {H : Hp} {κ : Type} [DecidableEq κ] (k : κ) {x : PV} {v : V} (r : RepV K H x v) (kvs : List (κ × PV)) (ws : List (κ × V)) (e : kvs.map (·.1) = ws.map (·.1)) (rs : RepVs K H (kvs.map (·.2)) (ws.map (·.2))) :
    (putP kvs k x).map (·.1) = (putK ws k v).map (·.1) ∧ RepVs K H ((putP kvs k x).map (·.2)) ((putK ws k v).map (·.2)) := by
  have ha : ∀ (kvs : List (κ × PV)) (ws : List (κ × V)), kvs.map (·.1) = ws.map (·.1) → (kvs.any fun kv => decide (kv.1 = k)) = (ws.any fun kv => decide (kv.1 = k)) := by
    intro kvs
    induction kvs with
    | nil => intro ws e; cases ws with | nil => rfl | cons _ _ => simp at e
    | cons p kvs ih =>
      intro ws e
      cases ws with
      | nil => simp at e
      | cons q ws =>
        simp only [List.map_cons, List.cons.injEq] at e
        rw [List.any_cons, List.any_cons, ih ws e.2, e.1]
  have hm : ∀ (kvs : List (κ × PV)) (ws : List (κ × V)), kvs.map (·.1) = ws.map (·.1) → RepVs K H (kvs.map (·.2)) (ws.map (·.2)) →
      (kvs.map fun kv => if kv.1 = k then (kv.1, x) else kv).map (·.1) = (ws.map fun kv => if kv.1 = k then (kv.1, v) else kv).map (·.1) ∧ RepVs K H ((kvs.map fun kv => if kv.1 = k then (kv.1, x) else kv).map (·.2)) ((ws.map fun kv => if kv.1 = k then (kv.1, v) else kv).map (·.2)) := by
    intro kvs
    induction kvs with
    | nil => intro ws e _; cases ws with | nil => exact ⟨rfl, .nil⟩ | cons _ _ => simp at e
    | cons p kvs ih =>
      intro ws e rs
      cases ws with
      | nil => simp at e
      | cons q ws =>
        simp only [List.map_cons, List.cons.injEq] at e
        cases rs with
        | cons r1 rs =>
        obtain ⟨i1, i2⟩ := ih ws e.2 rs
        simp only [List.map_cons]
        by_cases hk : p.1 = k
        · rw [if_pos hk, if_pos (e.1 ▸ hk)]
          exact ⟨by rw [i1, e.1], .cons r i2⟩
        · rw [if_neg hk, if_neg (e.1 ▸ hk)]
          exact ⟨by rw [i1, e.1], .cons r1 i2⟩
  unfold putP putK
  rw [ha kvs ws e]
  split
  · exact hm kvs ws e rs
  · refine ⟨by rw [List.map_append, List.map_append, e]; rfl, ?_⟩
    rw [List.map_append, List.map_append]
    exact rs.app (.cons r .nil)
def rPut : V → V → V → Hp → (Hp → Prop) → Prop := fun o i v H Q => rSetL o i v H Q ∨ ∃ a H', o = .ref a ∧ DPut H a i v H' ∧ Q H'
theorem set_any (hu : X.A.units + 65 < cLine) : PSet X rPut := by
  intro pins s σ H o i v ov iv u Q I ro ri rv h
  rcases h with h | ⟨a, H', rfl, g, q⟩
  · exact set_list pins s σ H o i v ov iv u Q I ro ri rv h
  · obtain rfl : ov = Value.ref a := ro
    exact d_setItem (by omega) I g ri rv fun s4 I4 => ⟨H', I4, q⟩
theorem ls_put {o i : Expr} {to ti : PTE} {pos' : Pos} (hu : X.A.units + 65 < cLine) (hasg : ∀ v, assign (.Subscript o i pos') X.env v = (do
      let ov ← holding [v] (eval o X.env)
      let iv ← holding [v, ov] (eval i X.env)
      standAt pos'
      holding [v, ov, iv] (setItem ov iv v)
      release [v, ov, iv] [])) (h1 : swapsWithSole [.Subscript o i pos'] a pos.line X.env = pure false) (h2 : swappedStores [.Subscript o i pos'] a X.env = pure none) (h3 : List.map (fun x => x.snd) (assignEach [.Subscript o i pos'] X.env) = [assign (.Subscript o i pos') X.env])
    (ha : LE X a ta) (ho : LE X o to) (hi : LE X i ti) : LS X (.Assign [.Subscript o i pos'] a pos) (fun D ρ S => ta ρ S fun v S1 => to ρ S1 fun x S2 => ti ρ S2 fun y S3 => putQ x y v S3 fun S4 => D.nx ρ S4) := by
  refine psW (ps_asg ha (pg_sub ho hi (set_any hu) hasg) h1 h2 h3) fun D σ H h => ?_
  obtain ⟨ρ, S, D0, re, rs, h, c⟩ := h
  refine ⟨ρ, S, _, re, rs, h, fun v S1 H1 v' q t1 s1 r1 => ?_⟩
  refine ⟨ρ, S1, _, re.mono t1, s1, q, fun x S2 H2 x' q2 t2 s2 r2 => ?_⟩
  refine ⟨ρ, S2, _, re.mono (t1.trans t2), s2, q2, fun y S3 H3 y' q3 t3 s3 r3 => ?_⟩
  have tt := t1.trans (t2.trans t3)
  have rv := (r1.mono t2).mono t3
  unfold putQ at q3
  split at q3
  · rename_i a
    cases r2
    split at q3
    · rename_i xs ea
      obtain ⟨vs, e1, e2⟩ := s3.lst ea
      split at q3
      · rename_i k
        cases r3
        split at q3
        · rename_i j ej
          have tu : TExt X.K H3 (upd H3 a (.lst (vs.set j v'))) := TExt.set e1 trivial
          exact .inl ⟨a, vs, k, j, rfl, rfl, e1, by rw [← e2.length]; exact ej, c.nx _ _ _ _ q3 (tt.trans tu) (s3.set e1 trivial ⟨_, upd_same, (RepVs.set rv j e2).mono tu⟩) (re.mono (tt.trans tu))⟩
        · exact q3.elim
      · exact q3.elim
    · rename_i kvs ea
      obtain ⟨ws, e1, e2, e3⟩ := s3 a _ ea
      split at q3
      · rename_i k ek
        have ey := keyOf_ok r3 ek
        subst ey
        have tu : TExt X.K H3 (upd H3 a (.dK (putK ws k v'))) := TExt.set e1 trivial
        obtain ⟨p1, p2⟩ := putP_ok k rv kvs ws e2 e3
        have hl : kvs.length = ws.length := by simpa using congrArg List.length e2
        exact .inr ⟨a, _, rfl, DPut.k e1 (by rw [← hl]; exact q3.1), c.nx _ _ _ _ q3.2 (tt.trans tu) (s3.set e1 trivial ⟨_, upd_same, p1, p2.mono tu⟩) (re.mono (tt.trans tu))⟩
      · exact q3.elim
    · exact q3.elim
  · exact q3.elim
theorem ls_exp (hs : swapsWith a none pos.line X.env = pure false) (ha : LE X a ta) : LS X (.Expr a pos) (fun D ρ S => ta ρ S fun _ S1 => D.nx ρ S1) := by
  refine psW (ps_expr ha hs) fun D σ H h => ?_
  obtain ⟨ρ, S, D0, re, rs, h, c⟩ := h
  exact ⟨ρ, S, _, re, rs, h, fun x S1 H1 v q t1 s1 r1 => c.nx _ _ _ _ q t1 s1 (re.mono t1)⟩
theorem ls_ret (ha : LE X a ta) : LS X (.Return (some a) pos) (fun D ρ S => ta ρ S D.rt) := by
  refine psW (ps_ret ha) fun D σ H h => ?_
  obtain ⟨ρ, S, D0, re, rs, h, c⟩ := h
  exact ⟨ρ, S, _, re, rs, h, c.rt⟩
theorem ls_retN : LS X (.Return none pos) (fun D _ S => D.rt .non S) := by
  refine psW ps_retN fun D σ H h => ?_
  obtain ⟨ρ, S, D0, re, rs, h, c⟩ := h
  exact c.rt.here h rs .non
theorem ls_ite {p q : List Stmt} {tp tq : PTS} (hc : LT X d (fun ρ S Q => td ρ S (truQ Q))) (hp : LSs X p tp) (hq : LSs X q tq) : LS X (.If d p q pos) (fun D ρ S => td ρ S (truQ fun k S1 => if k = true then tp D ρ S1 else tq D ρ S1)) := by
  refine psW (ps_if hc hp hq) fun D σ H h => ?_
  obtain ⟨ρ, S, D0, re, rs, h, c⟩ := h
  refine ⟨ρ, S, _, re, rs, h, fun k S1 H1 q t1 s1 => ?_⟩
  cases k with
  | true => exact ⟨ρ, S1, D0, re.mono t1, s1, q, c.mono t1⟩
  | false => exact ⟨ρ, S1, D0, re.mono t1, s1, q, c.mono t1⟩
theorem ls_brk : LS X (.Break pos) (fun D ρ S => D.bk ρ S) := by
  refine psW ps_break fun D σ H h => ?_
  obtain ⟨ρ, S, D0, re, rs, h, c⟩ := h
  exact c.bk _ _ _ _ h (TExt.refl _ _) rs re
theorem ls_cont : LS X (.Continue pos) (fun D ρ S => D.ct ρ S) := by
  refine psW ps_continue fun D σ H h => ?_
  obtain ⟨ρ, S, D0, re, rs, h, c⟩ := h
  exact c.ct _ _ _ _ h (TExt.refl _ _) rs re
theorem ls_pass : LS X (.Pass pos) (fun D ρ S => D.nx ρ S) := by
  refine psW ps_pass fun D σ H h => ?_
  obtain ⟨ρ, S, D0, re, rs, h, c⟩ := h
  exact c.nx _ _ _ _ h (TExt.refl _ _) rs re
theorem ls_never {st : Stmt} : LS X st (fun _ _ _ => False) := by
  refine psW ps_never fun D σ H h => ?_
  obtain ⟨ρ, S, D0, re, rs, h, c⟩ := h
  exact h
theorem lss_nil : LSs X [] (fun D ρ S => D.nx ρ S) := by
  refine pssW pss_nil fun D σ H h => ?_
  obtain ⟨ρ, S, D0, re, rs, h, c⟩ := h
  exact c.nx _ _ _ _ h (TExt.refl _ _) rs re
theorem lss_cons {st : Stmt} {rest : List Stmt} {t1 t2 : PTS} (h1 : LS X st t1) (h2 : LSs X rest t2) : LSs X (st :: rest) (fun D ρ S => t1 { D with nx := fun ρ2 S2 => t2 D ρ2 S2 } ρ S) := by
  refine pssW (pss_cons h1 h2) fun D σ H h => ?_
  obtain ⟨ρ, S, D0, re, rs, h, c⟩ := h
  refine ⟨ρ, S, _, re, rs, h, ⟨fun ρ2 S2 H2 σ2 q t2 s2 r2 => ⟨ρ2, S2, D0, r2, s2, q, c.mono t2⟩, c.rt, c.bk, c.ct⟩⟩
theorem ls_fo {ti : PTI} {g : G} {body : List Stmt} {tb : PTS} (hp : PassesOwn (model X.prog X.w) X.A X.env X.xe) (hc : X.calm = true) (hi : LI X tg iter ti) (hg : PG X tg (gV X.K g)) (hb : LSs X body tb) (hf : ∀ x, foldedSetIterable iter X.env x = pure x) :
    LS X (.For tg iter body [] pos) (fun D ρ S => ti ρ S fun xs Gd S1 => foP Gd (fun x ρ S k => gP g x ρ S fun ρ2 S2 => tb { nx := k, rt := D.rt, bk := D.nx, ct := k } ρ2 S2) D.nx xs ρ S1) := by
  refine psW (ps_for hp hc hi hg hb hf) fun D σ H h => ?_
  obtain ⟨ρ, S, D0, re, rs, h, c⟩ := h
  refine ⟨ρ, S, _, re, rs, h, fun xs Gd S1 H1 J q t1 s1 good => ?_⟩
  generalize hB : (fun (x : PV) (ρ : Nv) (S : Sto) (k : Nv → Sto → Prop) => gP g x ρ S fun ρ2 S2 => tb { nx := k, rt := D0.rt, bk := D0.nx, ct := k } ρ2 S2) = B at q
  refine ⟨fun i m σ' H' => m = xs.length - i ∧ i ≤ xs.length ∧ ∃ ρ' S', TExt X.K H1 H' ∧ RepE X.K H' ρ' σ' ∧ RepS X.K S' H' ∧ foP Gd B D0.nx (xs.drop i) ρ' S', ⟨xs.length, by simp, Nat.zero_le _, ρ, S1, TExt.refl _ _, re.mono t1, s1, q⟩, ?_⟩
  rintro i m σ' H' ⟨rfl, hi, ρ', S', t', re', s', w⟩
  by_cases hlt : i < xs.length
  · obtain ⟨y, hy⟩ := get_lt hlt
    have ed : xs.drop i = y :: xs.drop (i + 1) := by
      rw [List.drop_eq_getElem_cons hlt]
      rw [List.getElem?_eq_getElem hlt] at hy
      cases hy; rfl
    rw [ed] at w
    obtain ⟨wg, w⟩ := w
    subst hB
    refine .inr ⟨good.go i S' H' t'.z s' wg hlt, fun σ2 H2 => ∃ ρ2 S2, TExt X.K H1 H2 ∧ RepE X.K H2 ρ2 σ2 ∧ RepS X.K S2 H2 ∧ foP Gd (fun x ρ S k => gP g x ρ S fun ρ2 S2 => tb { nx := k, rt := D0.rt, bk := D0.nx, ct := k } ρ2 S2) D0.nx (xs.drop (i + 1)) ρ2 S2,
      fun σ2 H2 ⟨ρ2, S2, t2, r2, s2, w2⟩ => ⟨xs.length - (i + 1), by omega, rfl, by omega, ρ2, S2, t2, r2, s2, w2⟩, fun xv H2 yl => ?_⟩
    obtain ⟨z, hz, t2, rz, keep⟩ := good.yld i S' H' xv H2 t'.z s' wg hlt yl
    rw [hy] at hz
    cases hz
    refine gV_ok (re'.mono t2) rz w fun ρ2 σ2 re3 w2 _ => ?_
    have tt : TExt X.K H1 H2 := t'.trans t2
    have nxt : ClN X.K H2 (fun ρ2 S2 => ∃ S3, SubS S3 S2 ∧ foP Gd (fun x ρ S k => gP g x ρ S fun ρ2 S2 => tb { nx := k, rt := D0.rt, bk := D0.nx, ct := k } ρ2 S2) D0.nx (xs.drop (i + 1)) ρ2 S3) (fun σ2 H2 => ∃ ρ2 S2, TExt X.K H1 H2 ∧ RepE X.K H2 ρ2 σ2 ∧ RepS X.K S2 H2 ∧ foP Gd (fun x ρ S k => gP g x ρ S fun ρ2 S2 => tb { nx := k, rt := D0.rt, bk := D0.nx, ct := k } ρ2 S2) D0.nx (xs.drop (i + 1)) ρ2 S2) := by
      rintro ρ3 S3 H3 σ3 ⟨S4, sub, q⟩ t3 s3 r3
      exact ⟨ρ3, S4, tt.trans t3, r3, s3.sub sub, q⟩
    exact ⟨ρ2, S', _, re3, keep S' s', w2, ⟨nxt, c.rt.mono (t1.trans tt), c.nx.mono (t1.trans tt), nxt⟩⟩
  · have e : i = xs.length := by omega
    subst e
    rw [List.drop_length] at w
    exact .inl ⟨good.stop S' H' t'.z s' w.1, c.nx _ _ _ _ w.2 (t1.trans t') s' re'⟩
theorem ls_wh {body : List Stmt} {tb : PTS} (hp : PassesOwn (model X.prog X.w) X.A X.env X.xe) (hc : LT X d (fun ρ S Q => td ρ S (truQ Q))) (hb : LSs X body tb) :
    LS X (.While d body [] pos) (fun D ρ S => ∃ n, whP (fun ρ S k => td ρ S (truQ k)) (fun ρ S k => tb { nx := k, rt := D.rt, bk := D.nx, ct := k } ρ S) D.nx n ρ S) := by
  refine psW (ps_while hp hc hb) fun D σ H h => ?_
  obtain ⟨ρ, S, D0, re, rs, ⟨n, h⟩, c⟩ := h
  refine ⟨fun m σ' H' => ∃ ρ' S', TExt X.K H H' ∧ RepE X.K H' ρ' σ' ∧ RepS X.K S' H' ∧ whP (fun ρ S k => td ρ S (truQ k)) (fun ρ S k => tb { nx := k, rt := D0.rt, bk := D0.nx, ct := k } ρ S) D0.nx m ρ' S', ⟨n, ρ, S, TExt.refl _ _, re, rs, h⟩, ?_⟩
  rintro m σ' H' ⟨ρ', S', t', re', s', w⟩
  cases m with
  | zero => exact w.elim
  | succ m =>
    refine ⟨ρ', S', _, re', s', w, fun k S1 H1 q t1 s1 => ?_⟩
    cases k with
    | true =>
      rw [if_pos rfl] at q ⊢
      refine ⟨fun σ2 H2 => ∃ ρ' S', TExt X.K H H2 ∧ RepE X.K H2 ρ' σ2 ∧ RepS X.K S' H2 ∧ whP (fun ρ S k => td ρ S (truQ k)) (fun ρ S k => tb { nx := k, rt := D0.rt, bk := D0.nx, ct := k } ρ S) D0.nx m ρ' S', fun σ2 H2 w2 => ⟨m, Nat.lt_succ_self m, w2⟩, ?_⟩
      have tt := t'.trans t1
      have nxt : ClN X.K H1 (fun ρ2 S2 => ∃ S3, SubS S3 S2 ∧ whP (fun ρ S k => td ρ S (truQ k)) (fun ρ S k => tb { nx := k, rt := D0.rt, bk := D0.nx, ct := k } ρ S) D0.nx m ρ2 S3) (fun σ2 H2 => ∃ ρ' S', TExt X.K H H2 ∧ RepE X.K H2 ρ' σ2 ∧ RepS X.K S' H2 ∧ whP (fun ρ S k => td ρ S (truQ k)) (fun ρ S k => tb { nx := k, rt := D0.rt, bk := D0.nx, ct := k } ρ S) D0.nx m ρ' S') := by
        rintro ρ3 S3 H3 σ3 ⟨S4, sub, q⟩ t3 s3 r3
        exact ⟨ρ3, S4, tt.trans t3, r3, s3.sub sub, q⟩
      exact ⟨ρ', S1, _, re'.mono t1, s1, q, ⟨nxt, c.rt.mono tt, c.nx.mono tt, nxt⟩⟩
    | false =>
      rw [if_neg Bool.false_ne_true] at q ⊢
      exact c.nx _ _ _ _ q (t'.trans t1) s1 (re'.mono t1)
/-! ### dict displays -/
def flatP : List (V × V) → List V
  | [] => []
  | p :: r => p.1 :: p.2 :: flatP r
def LPrs (X : Cx) (pos : Pos) (keys : List (Option Expr)) (values : List Expr) (t : PTA) : Prop := ∃ trs, PPs X pos keys values trs ∧
  ∀ σ H (Q : List (V × V) → Hp → Prop), (∃ ρ S Q0, RepE X.K H ρ σ ∧ RepS X.K S H ∧ t ρ S Q0 ∧ ∀ xs S1 H1 ps, Q0 xs S1 → TExt X.K H H1 → RepS X.K S1 H1 → RepVs X.K H1 xs (flatP ps) → Q ps H1) → tPairs trs σ H Q
theorem lprs_nil : LPrs X pos [] [] (fun _ S Q => Q [] S) := ⟨[], pps_nil, fun σ H Q ⟨ρ, S, Q0, re, rs, h, c⟩ => c [] S H [] h (TExt.refl _ _) rs .nil⟩
theorem lprs_cons {keys : List (Option Expr)} {values : List Expr} (ha : LE X a ta) (hb : LE X b tb) (hr : LPrs X pos keys values t) :
    LPrs X pos (some a :: keys) (b :: values) (fun ρ S Q => ta ρ S fun x S1 => tb ρ S1 fun y S2 => t ρ S2 fun xs S3 => Q (x :: y :: xs) S3) := by
  obtain ⟨trs, hp, ht⟩ := hr
  refine ⟨_, pps_cons ha hb hp, fun σ H Q h => ?_⟩
  obtain ⟨ρ, S, Q0, re, rs, h, c⟩ := h
  refine ⟨ρ, S, _, re, rs, h, fun x S1 H1 v q1 t1 s1 r1 => ?_⟩
  refine ⟨ρ, S1, _, re.mono t1, s1, q1, fun y S2 H2 w q2 t2 s2 r2 => ?_⟩
  refine ht σ H2 _ ⟨ρ, S2, _, re.mono (t1.trans t2), s2, q2, fun xs S3 H3 ps q3 t3 s3 r3 => ?_⟩
  exact c _ _ _ _ q3 (t1.trans (t2.trans t3)) s3 (.cons (r1.mono (t2.trans t3)) (.cons (r2.mono t3) r3))
theorem pairUp_ok {K : Fr8} {H : Hp} : ∀ {xs : List PV} {kvs : List (L2.Key × PV)} {ps : List (V × V)}, pairUp xs = some kvs → RepVs K H xs (flatP ps) →
    ∃ ws : List (L2.Key × V), ps = ws.map (fun kv => (kV kv.1, kv.2)) ∧ kvs.map (·.1) = ws.map (·.1) ∧ RepVs K H (kvs.map (·.2)) (ws.map (·.2))
  | [], kvs, ps, e, r => by
    cases e
    cases ps with
    | nil => exact ⟨[], rfl, rfl, .nil⟩
    | cons p ps => cases r
  | [x], kvs, ps, e, r => by cases e
  | x :: y :: xs, kvs, ps, e, r => by
    cases ps with
    | nil => cases r
    | cons p ps =>
      cases r with
      | cons r1 r =>
      cases r with
      | cons r2 r =>
      simp only [pairUp] at e
      split at e
      · rename_i k l hk hl
        cases e
        obtain ⟨ws, e1, e2, e3⟩ := pairUp_ok hl r
        refine ⟨(k, p.2) :: ws, ?_, ?_, .cons r2 e3⟩
        · rw [List.map_cons, ← e1, ← keyOf_ok r1 hk]
        · rw [List.map_cons, List.map_cons, e2]
      · cases e
theorem mergeP_ok {K : Fr8} {H : Hp} : ∀ {more : List (L2.Key × PV)} {mw : List (L2.Key × V)} {kvs : List (L2.Key × PV)} {ws : List (L2.Key × V)}, more.map (·.1) = mw.map (·.1) → RepVs K H (more.map (·.2)) (mw.map (·.2)) → kvs.map (·.1) = ws.map (·.1) → RepVs K H (kvs.map (·.2)) (ws.map (·.2)) →
    (more.foldl (fun acc kv => putP acc kv.1 kv.2) kvs).map (·.1) = (mergeK ws mw).map (·.1) ∧ RepVs K H ((more.foldl (fun acc kv => putP acc kv.1 kv.2) kvs).map (·.2)) ((mergeK ws mw).map (·.2))
  | [], [], kvs, ws, _, _, e, r => ⟨e, r⟩
  | [], _ :: _, _, _, h, _, _, _ => by simp at h
  | _ :: _, [], _, _, h, _, _, _ => by simp at h
  | m :: more, n :: mw, kvs, ws, h, hr, e, r => by
    rw [List.map_cons, List.map_cons, List.cons.injEq] at h
    rw [List.map_cons, List.map_cons] at hr
    cases hr with
    | cons r1 hr =>
    obtain ⟨p1, p2⟩ := putP_ok m.1 r1 kvs ws e r
    have hm := h.1
    rw [hm] at p1 p2
    have := mergeP_ok (kvs := putP kvs m.1 m.2) (ws := putK ws n.1 n.2) h.2 hr (by rw [hm]; exact p1) (by rw [hm]; exact p2)
    exact this
theorem listP_prs {S : Sto} {H : Hp} {x : PV} {v : V} {kvs : List (Key × PV)} (s : RepS X.K S H) (r : RepV X.K H x v) (h : (listP x S).bind prsP = some kvs) :
    ∃ (a : Addr) (ps : List Addr) (ws : List (Key × V)), v = .ref a ∧ SqL X.K H a (ps.map V.ref) ∧ Paired (fun p (kv : Key × V) => SqT X.K H p [kV kv.1, kv.2]) ps ws ∧ kvs.map (·.1) = ws.map (·.1) ∧ RepVs X.K H (kvs.map (·.2)) (ws.map (·.2)) := by
  cases e : listP x S with
  | none => rw [e] at h; cases h
  | some xs =>
    rw [e] at h
    obtain ⟨a, vs, rfl, h1, h2⟩ := listP_ok s r e
    obtain ⟨ps, ws, rfl, e2, e3, e4⟩ := prsP_ok (show prsP xs = some kvs from h) h2
    exact ⟨a, ps, ws, rfl, h1, e2, e3, e4⟩
theorem le_dct {p : Pos} (hc : X.calm = true) (hg : Gl X "dict") (hm : X.mg "dict" = none) (ha : LE X a ta) (na : starEach [a] X.env = (false, eval a X.env) :: starEach [] X.env) :
    LE X (.Call (.Name "dict" p) [a] [] pos) (fun ρ S Q => ta ρ S fun x S1 => match (listP x S1).bind prsP with
      | some kvs => ∀ p, S1 p = none → Q (.ref p) (updS S1 p (.dK (mergeP kvs)))
      | none => False) := by
  refine peW (pe_callTy (call_dictP hc) hg hm (by decide +kernel) (la_cons ha la_nil na) (by decide +kernel) (by decide +kernel) na rfl) fun σ H Q h => ?_
  obtain ⟨ρ, S, Q0, re, rs, h, c⟩ := h
  refine ⟨ρ, S, fun xs S1 => match xs with
    | [x] => (match (listP x S1).bind prsP with
      | some kvs => ∀ p, S1 p = none → Q0 (.ref p) (updS S1 p (.dK (mergeP kvs)))
      | none => False)
    | _ => False, re, rs, h, fun xs S1 H1 vs q t1 s1 r1 => ?_⟩
  dsimp only at q
  split at q
  case h_2 => exact q.elim
  obtain ⟨v, rfl, r⟩ := R1 r1
  split at q
  case h_2 => exact q.elim
  rename_i kvs e
  obtain ⟨l, ps, ws, rfl, h1, h2, h3, h4⟩ := listP_prs s1 r e
  refine ⟨l, ps, ws, rfl, h1, h2, fun p hp => ?_⟩
  obtain ⟨m1, m2⟩ := mergeP_ok (kvs := []) (ws := []) h3 h4 rfl .nil
  refine c _ _ _ _ (q p (s1.free hp)) (t1.trans (TExt.new hp)) (s1.new hp ⟨_, upd_same, m1, m2.mono (TExt.new hp)⟩) (.ref p)
theorem le_dctF {p : Pos} (hc : X.calm = true) (hg : Gl X "dict") (hm : X.mg "dict" = none) (ha : LE X a ta) (na : starEach [a] X.env = (false, eval a X.env) :: starEach [] X.env) :
    LE X (.Call (.Name "dict" p) [a] [] pos) (fun ρ S Q => ta ρ S fun x S1 => match (listP x S1).bind prsP with
      | some kvs => Q (.dic (mergeP kvs)) S1
      | none => False) := by
  refine peW (pe_lck (pe_callTy (call_dictP hc) hg hm (by decide +kernel) (la_cons ha la_nil na) (by decide +kernel) (by decide +kernel) na rfl)) fun σ H Q h => ?_
  obtain ⟨ρ, S, Q0, re, rs, h, c⟩ := h
  refine ⟨ρ, S, fun xs S1 => match xs with
    | [x] => (match (listP x S1).bind prsP with
      | some kvs => Q0 (.dic (mergeP kvs)) S1
      | none => False)
    | _ => False, re, rs, h, fun xs S1 H1 vs q t1 s1 r1 => ?_⟩
  dsimp only at q
  split at q
  case h_2 => exact q.elim
  obtain ⟨v, rfl, r⟩ := R1 r1
  split at q
  case h_2 => exact q.elim
  rename_i kvs e
  obtain ⟨l, ps, ws, rfl, h1, h2, h3, h4⟩ := listP_prs s1 r e
  refine ⟨l, ps, ws, rfl, h1, h2, fun p hp => ?_⟩
  obtain ⟨m1, m2⟩ := mergeP_ok (kvs := []) (ws := []) h3 h4 rfl .nil
  exact (c.mono t1).newD q s1 m1 m2 hp
theorem le_disp {keys : List (Option Expr)} {values : List Expr} (h : LPrs X pos keys values t) (hall : keys.all (·.isSome) = true) (hl : keys.length = values.length) (h0 : keys ≠ []) (h15 : keys.length ≤ 15) :
    LE X (.Dict keys values pos) (fun ρ S Q => ∀ p, S p = none → t ρ (updS S p (.dK [])) fun xs S2 => S2 p = some (.dK []) ∧ match pairUp xs with
      | some kvs => kvs.length ≤ 15 ∧ Q (.ref p) (updS S2 p (.dK (mergeP kvs)))
      | none => False) := by
  obtain ⟨trs, hp, ht⟩ := h
  refine peW (pe_disp hp hall hl h0 h15) fun σ H Q h => ?_
  obtain ⟨ρ, S, Q0, re, rs, h, c⟩ := h
  intro p hpn
  have tn : TExt X.K H (upd H p (.dK [])) := TExt.new hpn
  refine ht σ _ _ ⟨ρ, updS S p (.dK []), _, re.mono tn, rs.new hpn ⟨[], upd_same, rfl, .nil⟩, h p (rs.free hpn), fun xs S2 H2 ps q t2 s2 r2 => ?_⟩
  obtain ⟨q1, q2⟩ := q
  obtain ⟨w0, e1, e2, _⟩ := s2 p _ q1
  have : w0 = [] := by cases w0 with | nil => rfl | cons => simp at e2
  subst this
  split at q2
  · rename_i kvs hk
    obtain ⟨ws, rfl, k1, k2⟩ := pairUp_ok hk r2
    refine ⟨e1, ws, rfl, ?_, ?_⟩
    · have := congrArg List.length k1
      simp at this; omega
    · obtain ⟨m1, m2⟩ := mergeP_ok (kvs := []) (ws := []) k1 k2 rfl .nil
      have ts : TExt X.K H2 (upd H2 p (.dK (mergeK [] ws))) := TExt.set e1 trivial
      exact c (.ref p) _ _ _ q2.2 (tn.trans (t2.trans ts)) (s2.set e1 trivial ⟨_, upd_same, m1, m2.mono ts⟩) (.ref p)
  · exact q2.elim
end
end PL

set_option Elab.async false
set_option linter.all false
set_option maxRecDepth 100000
set_option maxHeartbeats 4000000
/-! The checker: the program's tree is the small language's. -/
namespace PL
open PySem PySem.Spec L2
structure Ctx where
  N : List Str
  sc : Scope
  raw : Option Scope
  fns : List Str
  cns : List Str
def visB (sc : Scope) (x : Str) : Bool := match sc.names.lookup x with
  | some .local => true | some .cell => true | some .free => true | _ => false
def glB (sc : Scope) (x : Str) : Bool := decide (sc.names.lookup x = some .globalImplicit)
def stoB (c : Ctx) (x : Str) : Bool := match c.sc.names.lookup x with
  | some .local => true
  | some .cell => match c.raw with
    | none => true
    | some r => decide (r.names.lookup x = some .cell)
  | _ => false
def dbg (x : Str) : Bool := (x == ("__debug__" : Str)) || (x == ("__classdict__" : Str))
def litB : PV → Const → Bool
  | .int i, .int j => decide (i = j)
  | .str x, .str y => decide (x = y)
  | .bl a, .bool b => a == b
  | .non, .none => true
  | _, _ => false
def notStar : Expr → Bool
  | .Starred _ _ => false
  | _ => true
def notSlice : Expr → Bool
  | .Slice _ _ _ _ => false
  | _ => true
def notSet : Expr → Bool
  | .Set _ _ _ => false
  | _ => true
def notCall0 : Expr → Bool
  | .Call _ [] [] _ => false
  | _ => true
def notComp : Expr → Bool
  | .ListComp .. => false | .SetComp .. => false | .DictComp .. => false
  | _ => true
def isTupE : Expr → Bool
  | .Tuple _ _ _ => true
  | _ => false
def Es.isNil : Es → Bool
  | .nil => true
  | _ => false
def ownOf (N : List Str) (scope : Scope) : List (Str × Nat) := scope.names.filterMap fun p => match p.2 with
  | .local => (N.findIdx? (fun y => decide (y = p.1))).map fun i => (p.1, i)
  | .cell => (N.findIdx? (fun y => decide (y = p.1))).map fun i => (p.1, i)
  | _ => none
def Ctx.blk (c : Ctx) (scope : Scope) : Ctx := { c with sc := relS scope c.sc, raw := some scope }
def slotB (c : Ctx) (i : Nat) (e : Expr) : Bool := match e with
  | .Name x _ => decide (c.N[i]? = some x) && stoB c x
  | _ => false
def slotsB (c : Ctx) : List Nat → List Expr → Bool
  | [], [] => true
  | i :: is, e :: es => slotB c i e && slotsB c is es
  | _, _ => false
def cG (c : Ctx) : G → Expr → Bool
  | .nm i, e => slotB c i e
  | .tup is, .Tuple ts _ _ => slotsB c is ts
  | _, _ => false
def isTupT : Expr → Bool
  | .Tuple _ _ _ => true
  | _ => false
/-- a tree whose truth is asked of its value -/
def plainT : Expr → Bool
  | .List .. => true | .Call .. => true | .Subscript .. => true | .BinOp .. => true | .Name .. => true
  | _ => false
mutual
def cE : E → Ctx → Expr → Bool
  | .var i, c, e => match e with
    | .Name x _ => decide (c.N[i]? = some x) && visB c.sc x && !dbg x
    | _ => false
  | .con j, c, e => match e with
    | .Name x _ => decide (c.cns[j]? = some x) && glB c.sc x && !dbg x
    | _ => false
  | .lit v, _, e => match e with
    | .Constant k _ _ => litB v k
    | _ => false
  | .bin op a b, c, e => match e with
    | .BinOp l o r _ => decide (op = o) && (cE a c l && cE b c r)
    | _ => false
  | .neg a, c, e => match e with
    | .UnaryOp .USub x _ => cE a c x
    | _ => false
  | .cmp op a b, c, e => match e with
    | .Compare l [o] [r] _ => decide (op = o) && !behindInMarks o r && (cE a c l && cE b c r)
    | _ => false
  | .chn op op' a b d, c, e => match e with
    | .Compare l [o, o'] [r, q] _ => decide (op = o) && decide (op' = o') && !lastMarks [o, o'] [r, q] && (cE a c l && (cE b c r && cE d c q))
    | _ => false
  | .not a, c, e => match e with
    | .UnaryOp .Not x _ => cE a c x
    | _ => false
  | .bop op es, c, e => match e with
    | .BoolOp o vs _ => decide (op = o) && !es.isNil && cEs es c vs
    | _ => false
  | .ite t a b, c, e => match e with
    | .IfExp x y z _ => cE t c x && (cE a c y && cE b c z)
    | _ => false
  | .tup es, c, e => match e with
    | .Tuple l _ _ => cEs es c l
    | _ => false
  | .lst es, c, e => match e with
    | .List l _ => cEs es c l
    | _ => false
  | .dicK, _, e => match e with
    | .Dict [] [] _ => true
    | _ => false
  | .dicT, _, e => match e with
    | .Dict [] [] _ => true
    | _ => false
  | .call j es, c, e => match e with
    | .Call (.Name x _) as [] _ => decide (c.fns[j]? = some x) && glB c.sc x && !dbg x && cEs es c as
    | _ => false
  | .blt f es, c, e => match e with
    | .Call (.Name x _) as [] _ => decide (x = f.name) && glB c.sc x && !es.isNil && cEs es c as
    | _ => false
  | .isi a t, c, e => match e with
    | .Call (.Name x _) [y, .Name z _] [] _ => decide (x = ("isinstance" : Str)) && decide (z = t.st) && glB c.sc x && glB c.sc z && notStar y && cE a c y
    | _ => false
  | .idx a i, c, e => match e with
    | .Subscript x y _ => notSlice y && (cE a c x && cE i c y)
    | _ => false
  | .sl a lo hi, c, e => match e with
    | .Subscript x (.Slice l u none _) _ => cE a c x && (cO lo c l && cO hi c u)
    | _ => false
  | .revL a, c, e => match e with
    | .Subscript x (.Slice none none (some (.UnaryOp .USub (.Constant (.int i) _ _) _)) _) _ => decide (i = 1) && cE a c x
    | _ => false
  | .mth m o es, c, e => match e with
    | .Call (.Attribute x nm apos) as [] cpos => decide (nm = m.str) && (es.isNil == decide (m = .pop)) && decide (as.length < 30) && notCall0 x && (apos.endLine == cpos.line) && (cE o c x && cEs es c as)
    | _ => false
  | .dget o k d, c, e => match e with
    | .Call (.Attribute x nm apos) [y, z] [] cpos => decide (nm = ("get" : Str)) && notCall0 x && (apos.endLine == cpos.line) && notStar y && notStar z && (cE o c x && (cE k c y && cE d c z))
    | _ => false
  | .disp es, c, e => match e with
    | .Dict keys values _ => decide (keys ≠ []) && decide (keys.length ≤ 15) && cPr es c keys values
    | _ => false
  | .lc vs g it t elt, c, e => match e with
    | .ListComp x [⟨tg, iter, ifs, z⟩] scope _ => decide (z = 0) && decide (vs = (ownOf c.N scope).map (·.2)) && g.slots.all (fun j => vs.contains j) && blkC c.N c.sc scope (ownOf c.N scope) && cG (c.blk scope) g tg && notSet iter
        && (cI it c tg iter && (cC t (c.blk scope) ifs && cE elt (c.blk scope) x))
    | _ => false
  | .lcc .., _, _ => false
  | .lrg es, c, e => match e with
    | .Call (.Name x _) [.Call (.Name y _) as [] _] [] _ => decide (x = ("list" : Str)) && decide (y = ("range" : Str)) && glB c.sc x && glB c.sc y && (decide (as.length = 1) || decide (as.length = 2)) && cEs es c as
    | _ => false
  | .trg es, c, e => match e with
    | .Call (.Name x _) [.Call (.Name y _) as [] _] [] _ => decide (x = ("tuple" : Str)) && decide (y = ("range" : Str)) && glB c.sc x && glB c.sc y && (decide (as.length = 1) || decide (as.length = 2)) && cEs es c as
    | _ => false
  | .frz a, c, e => plainT e && cE a c e
  | .gc a, c, e => plainT e && cE a c e
  | .lstF es, c, e => match e with
    | .List l _ => cEs es c l
    | _ => false
  | .slF a lo hi, c, e => match e with
    | .Subscript x (.Slice l u none _) _ => cE a c x && (cO lo c l && cO hi c u)
    | _ => false
  | .dct a, c, e => match e with
    | .Call (.Name x _) [y] [] _ => decide (x = ("dict" : Str)) && glB c.sc x && notStar y && cE a c y
    | _ => false
  | .dctF a, c, e => match e with
    | .Call (.Name x _) [y] [] _ => decide (x = ("dict" : Str)) && glB c.sc x && notStar y && cE a c y
    | _ => false
  | .lccF vs vs1 g it t g1 it1 t1 elt, c, e => match e with
    | .ListComp x [⟨tg, iter, ifs, z⟩, ⟨tg1, iter1, ifs1, z1⟩] scope _ => decide (z = 0) && decide (z1 = 0) && decide (vs = (ownOf c.N scope).map (·.2)) && g.slots.all (fun j => vs.contains j) && g1.slots.all (fun j => vs1.contains j) && vs1.all (fun j => vs.contains j) && blkC c.N c.sc scope (ownOf c.N scope) && cG (c.blk scope) g tg && cG (c.blk scope) g1 tg1 && notSet iter && notSet iter1
        && (cI it c tg iter && (cC t (c.blk scope) ifs && (cI it1 (c.blk scope) tg1 iter1 && (cC t1 (c.blk scope) ifs1 && cE elt (c.blk scope) x))))
    | _ => false
  | .sset a, c, e => match e with
    | .Call (.Name x _) [.Call (.Name y _) [z] [] _] [] _ => decide (x = ("sorted" : Str)) && decide (y = ("set" : Str)) && glB c.sc x && glB c.sc y && notStar z && cE a c z
    | _ => false
  | .bltF f es, c, e => match e with
    | .Call (.Name x _) as [] _ => decide (x = f.name) && glB c.sc x && !es.isNil && cEs es c as
    | _ => false
  | .lcF vs g it t elt, c, e => match e with
    | .ListComp x [⟨tg, iter, ifs, z⟩] scope _ => decide (z = 0) && decide (vs = (ownOf c.N scope).map (·.2)) && g.slots.all (fun j => vs.contains j) && blkC c.N c.sc scope (ownOf c.N scope) && cG (c.blk scope) g tg && notSet iter
        && (cI it c tg iter && (cC t (c.blk scope) ifs && cE elt (c.blk scope) x))
    | _ => false
  | .lrgF es, c, e => match e with
    | .Call (.Name x _) [.Call (.Name y _) as [] _] [] _ => decide (x = ("list" : Str)) && decide (y = ("range" : Str)) && glB c.sc x && glB c.sc y && (decide (as.length = 1) || decide (as.length = 2)) && cEs es c as
    | _ => false
def cEs : Es → Ctx → List Expr → Bool
  | .nil, _, es => es.isEmpty
  | .cons a as, c, es => match es with
    | e :: r => notStar e && (cE a c e && cEs as c r)
    | [] => false
def cPr : Es → Ctx → List (Option Expr) → List Expr → Bool
  | .nil, _, ks, vs => ks.isEmpty && vs.isEmpty
  | .cons _ .nil, _, _, _ => false
  | .cons a (.cons b es), c, ks, vs => match ks, vs with
    | some k :: ks, v :: vs => cE a c k && (cE b c v && cPr es c ks vs)
    | _, _ => false
def cC : Es → Ctx → List Expr → Bool
  | .nil, _, es => es.isEmpty
  | .cons a as, c, es => match es with
    | [e] => as.isNil && cE a c e
    | _ => false
def cO : Es → Ctx → Option Expr → Bool
  | .nil, _, e => match e with
    | none => true
    | _ => false
  | .cons a as, c, e => match e with
    | some e => as.isNil && cE a c e
    | none => false
def cI : I → Ctx → Expr → Expr → Bool
  | .seq a, c, _, e => cE a c e
  | .rng es, c, _, e => match e with
    | .Call (.Name x _) as [] _ => decide (x = ("range" : Str)) && glB c.sc x && (decide (as.length = 1) || decide (as.length = 2) || decide (as.length = 3)) && cEs es c as
    | _ => false
  | .enum a, c, tg, e => match e with
    | .Call (.Name x _) [y] [] _ => decide (x = ("enumerate" : Str)) && glB c.sc x && isTupT tg && notStar y && cE a c y
    | _ => false
  | .zip a b, c, tg, e => match e with
    | .Call (.Name x _) [y, z] [] _ => decide (x = ("zip" : Str)) && glB c.sc x && isTupT tg && notStar y && notStar z && (cE a c y && cE b c z)
    | _ => false
end
def swB (sc : Scope) (v : Expr) (y : Str) (py : Pos) : Bool := match v with
  | .ListComp _ _ scope pos => decide (sc.names.lookup y = some .local) && (py.line == pos.line) && !(scope.names.any fun (n, k) => n == y && (k == .local || k == .cell))
  | _ => false
def localN (sc : Scope) (line : Nat) : Expr → Option Str
  | .Name id pos => if sc.names.lookup id == some .local && pos.line == line then some id else none
  | _ => none
/-- a, b = .. that is not swapped -/
def noSwapB (sc : Scope) (ts : List Expr) (v : Expr) : Bool := match v with
  | .Tuple vs _ _ => !(ts.length == 2 || ts.length == 3) || vs.length != ts.length || (vs.all notStar && (let line := (ts.head?.map (·.pos.line)).getD 0; (ts.filterMap (localN sc line)).length != ts.length))
  | _ => true
mutual
def cS : Sm → Ctx → Stmt → Bool
  | .set i e, c, s => match s with
    | .Assign [.Name x py] v _ => decide (c.N[i]? = some x) && stoB c x && (notComp v || (match v with | .ListComp .. => true | _ => false)) && cE e c v
    | _ => false
  | .tup is e, c, s => match s with
    | .Assign [.Tuple ts _ _] v _ => slotsB c is ts && noSwapB c.sc ts v && cE e c v
    | _ => false
  | .par i j a b, c, s => match s with
    | .Assign [.Tuple [.Name x px, .Name y py] _ _] (.Tuple [p, q] _ _) _ => decide (c.N[i]? = some x) && decide (c.N[j]? = some y) && !(i == j) && decide (c.sc.names.lookup x = some .local) && decide (c.sc.names.lookup y = some .local) && (px.line == py.line)
        && notStar p && notStar q && !(x == y) && !(foldedForSure 8 p && foldedForSure 8 q) && !(constantsAlone 8 p && constantsAlone 8 q) && (cE a c p && cE b c q)
    | _ => false
  | .par3 i j l a b d, c, s => match s with
    | .Assign [.Tuple [.Name x px, .Name y py, .Name z pz] _ _] (.Tuple [p, q, r] _ _) _ => (decide (c.N[i]? = some x) && decide (c.N[j]? = some y) && decide (c.N[l]? = some z)) && (!(i == j) && !(i == l) && !(j == l)) && (decide (c.sc.names.lookup x = some .local) && decide (c.sc.names.lookup y = some .local) && decide (c.sc.names.lookup z = some .local))
        && ((py.line == px.line) && (pz.line == px.line)) && (notStar p && notStar q && notStar r) && (!(y == x) && !(z == x) && !(z == y)) && (!(foldedForSure 8 p && (foldedForSure 8 q && foldedForSure 8 r)) && !(constantsAlone 8 p && (constantsAlone 8 q && constantsAlone 8 r))) && (cE a c p && (cE b c q && cE d c r))
    | _ => false
  | .put o i e, c, s => match s with
    | .Assign [.Subscript x y _] v _ => notSlice y && (cE e c v && (cE o c x && cE i c y))
    | _ => false
  | .exp e, c, s => match s with
    | .Expr v _ => notComp v && cE e c v
    | _ => false
  | .ret e, c, s => match s with
    | .Return (some v) _ => cE e c v
    | _ => false
  | .retN, _, s => match s with
    | .Return none _ => true
    | _ => false
  | .ite t a b, c, s => match s with
    | .If x p q _ => cE t c x && (cSs a c p && cSs b c q)
    | _ => false
  | .fo g it b, c, s => match s with
    | .For tg iter body [] _ => cG c g tg && notSet iter && (cI it c tg iter && cSs b c body)
    | _ => false
  | .wh t b, c, s => match s with
    | .While x body [] _ => cE t c x && cSs b c body
    | _ => false
  | .brk, _, s => match s with
    | .Break _ => true
    | _ => false
  | .cont, _, s => match s with
    | .Continue _ => true
    | _ => false
  | .pass, _, s => match s with
    | .Pass _ => true
    | _ => false
  | .never, _, _ => true
def cSs : List Sm → Ctx → List Stmt → Bool
  | [], _, s => s.isEmpty
  | a :: as, c, s => match s with
    | e :: r => cS a c e && cSs as c r
    | [] => false
end
end PL

set_option Elab.async false
set_option linter.all false
set_option maxRecDepth 100000
set_option maxHeartbeats 4000000
/-! What the checker takes, means what the small language means. -/
namespace PL
open PySem PySem.Spec L2
def bltNames : List Str := ["len", "abs", "max", "min", "sum", "all", "any", "sorted", "tuple", "list", "int", "bool", "str", "dict", "isinstance", "range", "enumerate", "zip", "set"]
structure Ok (c : Ctx) (κ : Nat → PV) (Γ : Nat → Con) (X : Cx) : Prop where
  N : X.N = c.N
  sc : X.env.scope = c.sc
  kd : c.sc.kind = .function
  calm : X.calm = true
  nd : X.N.Nodup
  sto : ∀ x, stoB c x = true → Loc X.env.scope x ∧ (X.fn x = true ∨ X.env.scope.names.lookup x = some .local)
  hu : X.A.units + 65 < cLine
  fns : ∀ j x, c.fns[j]? = some x → ∃ n, FnG X.prog X.w X.K X.mg X.base X.A x n (Γ j) ∧ ∀ xs S Q, Γ j xs S Q → xs.length = n
  cns : ∀ j x, c.cns[j]? = some x → ∃ u v, X.mg x = some u ∧ RelV v u ∧ ∀ H, RepV X.K H (κ j) v
  blt : ∀ x, x ∈ bltNames → X.mg x = none
section
variable {κ : Nat → PV} {Γ : Nat → Con} {c : Ctx} {X : Cx}
theorem Ok.gl (ok : Ok c κ Γ X) {x : Str} (h : glB c.sc x = true) : Gl X x := by
  unfold glB at h
  have h := of_decide_eq_true h
  show X.env.scope.names.lookup x = _
  rw [ok.sc]; exact h
theorem Ok.vis (ok : Ok c κ Γ X) {x : Str} (h : visB c.sc x = true) : Vis X.env.scope x := by
  unfold visB at h
  rw [← ok.sc] at h
  unfold Vis
  split at h
  · rename_i e; exact .inl e
  · rename_i e; exact .inr (.inl e)
  · rename_i e; exact .inr (.inr e)
  · cases h
theorem dbg_d {x : Str} (h : (!dbg x) = true) : (x == ("__debug__" : Str)) = false ∧ (x == ("__classdict__" : Str)) = false := by
  unfold dbg at h
  rw [Bool.not_eq_true', Bool.or_eq_false_iff] at h
  exact h
theorem Ok.blk (ok : Ok c κ Γ X) {scope : Scope} (hk : scope.kind = .function) (s : Shared) (H : Hp) (C : Addr) (cl : List (Str × Addr)) (fp : List Addr) : Ok (c.blk scope) κ Γ (X.blk s H scope (compEnvC scope cl C X.env) fp) where
  N := ok.N
  sc := by
    show relS scope X.env.scope = relS scope c.sc
    rw [ok.sc]
  kd := hk
  calm := ok.calm
  nd := ok.nd
  sto := fun x h => by
    have es : (X.blk s H scope (compEnvC scope cl C X.env) fp).env.scope = (c.blk scope).sc := by
      show relS scope X.env.scope = relS scope c.sc
      rw [ok.sc]
    rw [es]
    unfold stoB at h
    unfold L2.Loc
    split at h
    · rename_i e; exact ⟨.inl e, .inr e⟩
    · rename_i e
      refine ⟨.inr e, .inl ?_⟩
      split at h
      · rename_i r; cases r
      · rename_i r er
        cases er
        have := of_decide_eq_true h
        show (scope.names.lookup x == some .cell) = true
        rw [this]; rfl
    · cases h
  hu := ok.hu
  fns := ok.fns
  cns := ok.cns
  blt := ok.blt
/-! ### side conditions -/
theorem star_ok {e : Expr} (h : notStar e = true) (es : List Expr) (env : Env) : starEach (e :: es) env = (false, eval e env) :: starEach es env := by
  cases e <;> first | rfl | cases h
theorem all_star {p : Es} : ∀ {es : List Expr}, cEs p c es = true → es.all notStar = true := by
  intro es h
  match p, es, h with
  | .nil, [], _ => rfl
  | .nil, _ :: _, h => simp [cEs] at h
  | .cons a as, [], h => simp [cEs] at h
  | .cons a as, e :: r, h =>
    simp only [cEs, Bool.and_eq_true] at h
    rw [List.all_cons, h.1, Bool.true_and]
    exact all_star h.2.2
theorem star_any : ∀ {es : List Expr} (env : Env) (pos : Pos), es.all notStar = true → (backTo pos (starEach es env)).any (·.1) = false
  | [], _, _, _ => rfl
  | e :: es, env, pos, h => by
    rw [List.all_cons, Bool.and_eq_true] at h
    rw [star_ok h.1]
    show (false || (backTo pos (starEach es env)).any (·.1)) = false
    rw [star_any env pos h.2]; rfl
theorem star_all : ∀ {es : List Expr} (env : Env) (pos : Pos), es.all notStar = true → (backTo pos (starEach es env)).all (fun x => !x.1) = true
  | [], _, _, _ => rfl
  | e :: es, env, pos, h => by
    rw [List.all_cons, Bool.and_eq_true] at h
    rw [star_ok h.1]
    show (true && (backTo pos (starEach es env)).all (fun x => !x.1)) = true
    rw [star_all env pos h.2]; rfl
theorem plainIx_of {e : Expr} (h : notSlice e = true) : PlainIx e := by
  intro o i
  cases e <;> first | rfl | cases h
theorem fold_of {e : Expr} (h : notSet e = true) (env : Env) : ∀ x, foldedSetIterable e env x = pure x := by
  intro x
  cases e <;> first | rfl | cases h
theorem base_of {e : Expr} {m : Str} {env : Env} (h : notCall0 e = true) (w : Sem Value) : attributeBase e m env w = w := by
  unfold attributeBase
  cases e <;> try rfl
  rename_i f as ks p
  cases f <;> try rfl
  cases as <;> cases ks <;> first | rfl | cases h
theorem swaps_of {e : Expr} (h : notComp e = true) (t : Option Expr) (l : Nat) (env : Env) : swapsWith e t l env = pure false := by
  cases e <;> first | rfl | cases h
theorem pg_of (ok : Ok c κ Γ X) : ∀ {g : G} {tg : Expr}, cG c g tg = true → PG X tg (gV X.K g)
  | .nm i, tg, h => by
    simp only [cG, slotB] at h
    split at h
    · simp only [Bool.and_eq_true, decide_eq_true_eq] at h
      obtain ⟨h1, h2⟩ := ok.sto _ h.2
      exact pg_name ok.nd (by rw [ok.N]; exact h.1) h1 h2
    · cases h
  | .tup is, tg, h => by
    cases tg <;> simp only [cG] at h <;> try cases h
    rename_i ts k p
    have hl : ∀ (is : List Nat) (ts : List Expr), slotsB c is ts = true → ts.length = is.length ∧ (∀ (j : Nat) (i : Nat) (e : Expr), is[j]? = some i → ts[j]? = some e → ∃ x pos, e = .Name x pos ∧ X.N[i]? = some x ∧ Loc X.env.scope x ∧ (X.fn x = true ∨ X.env.scope.names.lookup x = some .local)) := by
      intro is
      induction is with
      | nil => intro ts h; cases ts with | nil => exact ⟨rfl, fun j i e a _ => by simp at a⟩ | cons _ _ => simp [slotsB] at h
      | cons i is ih =>
        intro ts h
        cases ts with
        | nil => simp [slotsB] at h
        | cons t ts =>
          simp only [slotsB, Bool.and_eq_true] at h
          obtain ⟨i1, i2⟩ := ih ts h.2
          refine ⟨by simp [i1], fun j => ?_⟩
          cases j with
          | zero =>
            intro i' e a b
            simp at a b
            subst a b
            have h1 := h.1
            unfold slotB at h1
            split at h1
            · simp only [Bool.and_eq_true, decide_eq_true_eq] at h1
              obtain ⟨h2, h3⟩ := ok.sto _ h1.2
              exact ⟨_, _, rfl, by rw [ok.N]; exact h1.1, h2, h3⟩
            · cases h1
          | succ j => intro i' e a b; exact i2 j i' e (by simpa using a) (by simpa using b)
    obtain ⟨h1, h2⟩ := hl is ts h
    have hA : ∀ (ts : List Expr), (∀ (j : Nat) (e : Expr), ts[j]? = some e → ∃ x pos, e = .Name x pos) → (assignEach ts X.env).length = ts.length ∧ (assignEach ts X.env).findIdx? (·.1) = none := by
      intro ts
      induction ts with
      | nil => intro _; exact ⟨rfl, rfl⟩
      | cons t ts ih =>
        intro ht
        obtain ⟨x, pos, rfl⟩ := ht 0 t rfl
        obtain ⟨j1, j2⟩ := ih fun j e a => ht (j + 1) e (by simpa using a)
        refine ⟨by show (assignEach ts X.env).length + 1 = _; rw [j1]; rfl, ?_⟩
        show List.findIdx? (fun x => x.1) ((false, assign (.Name x pos) X.env) :: assignEach ts X.env) = none
        rw [List.findIdx?_cons, j2]; rfl
    have hT := hA ts fun j e a => by
      have hj : j < is.length := by rw [← h1]; exact (List.getElem?_eq_some_iff.mp a).1
      obtain ⟨x, pos, q, _⟩ := h2 j is[j] e (List.getElem?_eq_getElem hj) a
      exact ⟨x, pos, q⟩
    exact pg_tup ok.calm (pgs_nms ok.nd is ts h1 h2) (by rw [hT.1, h1]) hT.2
end
end PL

set_option Elab.async false
set_option linter.all false
set_option maxRecDepth 100000
set_option maxHeartbeats 4000000
namespace PL
open PySem PySem.Spec L2
section
variable {κ : Nat → PV} {Γ : Nat → Con}
/-- both as a value and as a test -/
def LB (X : Cx) (e : Expr) (t : PTE) : Prop := LE X e t ∧ LT X e (fun ρ S Q => t ρ S (truQ Q))
theorem lb_of {X : Cx} {e : Expr} {t : PTE} (h : LE X e t) (he : ∀ whole, PySem.isTrue e X.env whole = (do let v ← whole; standAt e.pos; holding [v] (truthy v))) : LB X e t := ⟨h, lt_of h he⟩
theorem args_cons {c : Ctx} {p : Es} {es : List Expr} (h : cEs p c es = true) (hn : p.isNil = false) : ∃ a as, es = a :: as := by
  cases p with
  | nil => cases hn
  | cons a as =>
    cases es with
    | nil => simp [cEs] at h
    | cons e r => exact ⟨e, r, rfl⟩
theorem args_nil {c : Ctx} {p : Es} {es : List Expr} (h : cEs p c es = true) (hn : p.isNil = true) : es = [] ∧ p = .nil := by
  cases p with
  | nil => cases es with
    | nil => exact ⟨rfl, rfl⟩
    | cons _ _ => simp [cEs] at h
  | cons a as => cases hn
theorem isNil_of {p : Es} (h : (!p.isNil) = true) : p.isNil = false := by
  cases hh : p.isNil <;> simp [hh] at h ⊢
theorem len_cons {l : List Expr} {n : Nat} (h : l.length = n + 1) : ∃ x r, l = x :: r := List.exists_cons_of_length_pos (by omega)
theorem mem1 {x : Str} (h : x ∈ bltNames := by simp [bltNames]) : x ∈ bltNames := h
theorem bf_mem : ∀ f : Bf, f.name ∈ bltNames := by intro f; cases f <;> simp [bltNames, Bf.name]
theorem ty_mem : ∀ f : Ty, f.st ∈ bltNames := by intro f; cases f <;> simp [bltNames, Ty.st]
mutual
theorem sE : ∀ (p : E) {c : Ctx} {X : Cx} {e : Expr}, Ok c κ Γ X → cE p c e = true → LB X e (wE κ Γ p)
  | .var i, c, X, e, ok, h => by
    simp only [cE] at h
    split at h
    · simp only [Bool.and_eq_true, decide_eq_true_eq] at h
      obtain ⟨⟨h1, h2⟩, h3⟩ := h
      obtain ⟨d1, d2⟩ := dbg_d h3
      rw [wE]
      exact lb_of (le_var (by rw [ok.N]; exact h1) (ok.vis h2) d1 d2) fun _ => rfl
    · cases h
  | .con j, c, X, e, ok, h => by
    simp only [cE] at h
    split at h
    · simp only [Bool.and_eq_true, decide_eq_true_eq] at h
      obtain ⟨⟨h1, h2⟩, h3⟩ := h
      obtain ⟨d1, d2⟩ := dbg_d h3
      obtain ⟨u, v, m, r, q⟩ := ok.cns j _ h1
      rw [wE]
      exact lb_of (le_lit q (pe_glob (ok.gl h2) m r d1)) fun _ => rfl
    · cases h
  | .lit v, c, X, e, ok, h => by
    simp only [cE] at h
    split at h
    · rename_i k n p
      rw [wE]
      cases v <;> cases k <;> simp only [litB] at h <;> first | cases h | skip
      · exact lb_of (le_lit (fun _ => .non) pe_non) fun _ => rfl
      · have h := eq_of_beq h
        subst h
        exact lb_of (le_lit (fun _ => .bl _) pe_bl) fun _ => rfl
      · have h := of_decide_eq_true h
        subst h
        exact lb_of (le_lit (fun _ => .int _) pe_int) fun _ => rfl
      · have h := of_decide_eq_true h
        subst h
        exact lb_of (le_lit (fun _ => .str _) pe_str) fun _ => rfl
    · cases h
  | .bin op a b, c, X, e, ok, h => by
    simp only [cE] at h
    split at h
    · simp only [Bool.and_eq_true, decide_eq_true_eq] at h
      obtain ⟨rfl, h1, h2⟩ := h
      rw [wE]
      exact lb_of (le_bin (bin_ok _) (sE a ok h1).1 (sE b ok h2).1) fun _ => rfl
    · cases h
  | .neg a, c, X, e, ok, h => by
    simp only [cE] at h
    split at h
    · rw [wE]
      exact lb_of (le_neg (sE a ok h).1) fun _ => rfl
    · cases h
  | .cmp op a b, c, X, e, ok, h => by
    simp only [cE] at h
    split at h
    · simp only [Bool.and_eq_true, decide_eq_true_eq, Bool.not_eq_true'] at h
      obtain ⟨⟨rfl, hm⟩, h1, h2⟩ := h
      rw [wE]
      exact ⟨le_cmp (cmp_ok ok.hu _) hm (sE a ok h1).1 (sE b ok h2).1, lt_cmp (cmp_ok ok.hu _) hm (sE a ok h1).1 (sE b ok h2).1⟩
    · cases h
  | .chn op op' a b d, c, X, e, ok, h => by
    simp only [cE] at h
    split at h
    · simp only [Bool.and_eq_true, decide_eq_true_eq, Bool.not_eq_true'] at h
      obtain ⟨⟨⟨rfl, rfl⟩, hm⟩, h1, h2, h3⟩ := h
      rw [wE]
      exact ⟨le_chn (cmp_ok ok.hu _) (cmp_ok ok.hu _) hm (sE a ok h1).1 (sE b ok h2).1 (sE d ok h3).1, lt_chn (cmp_ok ok.hu _) (cmp_ok ok.hu _) hm (sE a ok h1).1 (sE b ok h2).1 (sE d ok h3).1⟩
    · cases h
  | .not a, c, X, e, ok, h => by
    simp only [cE] at h
    split at h
    · rw [wE]
      exact ⟨le_not (sE a ok h).1, lt_not (sE a ok h).2⟩
    · cases h
  | .bop op es, c, X, e, ok, h => by
    simp only [cE] at h
    split at h
    · simp only [Bool.and_eq_true, decide_eq_true_eq] at h
      obtain ⟨⟨rfl, hn⟩, h1⟩ := h
      rw [wE]
      obtain ⟨q1, q2⟩ := sBo es ok h1 (isNil_of hn)
      exact ⟨q1 _, (q2 _).pt⟩
    · cases h
  | .ite t a b, c, X, e, ok, h => by
    simp only [cE] at h
    split at h
    · simp only [Bool.and_eq_true] at h
      obtain ⟨h1, h2, h3⟩ := h
      rw [wE]
      refine ⟨le_ite (sE t ok h1).2 (sE a ok h2).1 (sE b ok h3).1, ?_⟩
      exact lt_ite (sE t ok h1).2 (sE a ok h2).2 (sE b ok h3).2
    · cases h
  | .tup es, c, X, e, ok, h => by
    simp only [cE] at h
    split at h
    · rw [wE]
      exact lb_of (le_tup (sEs es ok h)) fun _ => rfl
    · cases h
  | .lst es, c, X, e, ok, h => by
    simp only [cE] at h
    split at h
    · rw [wE]
      exact lb_of (le_lst (sEs es ok h)) fun _ => rfl
    · cases h
  | .dicK, c, X, e, ok, h => by
    simp only [cE] at h
    split at h
    · rw [wE]
      exact lb_of le_dicK fun _ => rfl
    · cases h
  | .dicT, c, X, e, ok, h => by
    simp only [cE] at h
    split at h
    · rw [wE]
      exact lb_of le_dicT fun _ => rfl
    · cases h
  | .call j es, c, X, e, ok, h => by
    simp only [cE] at h
    split at h
    · simp only [Bool.and_eq_true, decide_eq_true_eq] at h
      obtain ⟨⟨⟨h1, h2⟩, h3⟩, h4⟩ := h
      obtain ⟨d1, d2⟩ := dbg_d h3
      obtain ⟨n, F, hn⟩ := ok.fns j _ h1
      rw [wE]
      cases hh : es.isNil with
      | true =>
        obtain ⟨rfl, rfl⟩ := args_nil h4 hh
        exact lb_of (le_call0 F hn (ok.gl h2) d1) fun _ => rfl
      | false =>
        have hs := all_star h4
        have hA := sEs es ok h4
        obtain ⟨a, as, rfl⟩ := args_cons h4 hh
        rw [List.all_cons, Bool.and_eq_true] at hs
        exact lb_of (le_call F hn (ok.gl h2) d1 hA (star_ok hs.1 _ _) fun p => star_any _ p hs.2) fun _ => rfl
    · cases h
  | .blt f es, c, X, e, ok, h => by
    simp only [cE] at h
    split at h
    · simp only [Bool.and_eq_true, decide_eq_true_eq] at h
      obtain ⟨⟨⟨rfl, h2⟩, h3⟩, h4⟩ := h
      rw [wE]
      have hs := all_star h4
      have hA := sEs es ok h4
      obtain ⟨a, as, rfl⟩ := args_cons h4 (isNil_of h3)
      rw [List.all_cons, Bool.and_eq_true] at hs
      exact lb_of (le_blt (blt_ok ok.calm f) (ok.gl h2) (ok.blt _ (bf_mem f)) hA (star_ok hs.1 _ _) fun p => star_any _ p hs.2) fun _ => rfl
    · cases h
  | .isi a t, c, X, e, ok, h => by
    simp only [cE] at h
    split at h
    · simp only [Bool.and_eq_true, decide_eq_true_eq] at h
      obtain ⟨⟨⟨⟨⟨rfl, rfl⟩, h3⟩, h4⟩, h5⟩, h6⟩ := h
      rw [wE]
      exact lb_of (le_isi (ok.gl h3) (ok.blt _ mem1) (ok.gl h4) (ok.blt _ (ty_mem t)) (sE a ok h6).1 (star_ok h5 _ _)) fun _ => rfl
    · cases h
  | .idx a i, c, X, e, ok, h => by
    simp only [cE] at h
    split at h
    · simp only [Bool.and_eq_true] at h
      obtain ⟨h1, h2, h3⟩ := h
      rw [wE]
      exact lb_of (le_idx ok.hu (plainIx_of h1) (sE a ok h2).1 (sE i ok h3).1) fun _ => rfl
    · cases h
  | .sl a lo hi, c, X, e, ok, h => by
    simp only [cE] at h
    split at h
    · simp only [Bool.and_eq_true] at h
      obtain ⟨h1, h2, h3⟩ := h
      rw [wE]
      exact lb_of (le_sl (sE a ok h1).1 (sO lo ok h2) (sO hi ok h3)) fun _ => rfl
    · cases h
  | .revL a, c, X, e, ok, h => by
    simp only [cE] at h
    split at h
    · simp only [Bool.and_eq_true, decide_eq_true_eq] at h
      obtain ⟨rfl, h1⟩ := h
      rw [wE]
      exact lb_of (le_revL (sE a ok h1).1) fun _ => rfl
    · cases h
  | .mth m o es, c, X, e, ok, h => by
    simp only [cE] at h
    split at h
    · simp only [Bool.and_eq_true, decide_eq_true_eq] at h
      obtain ⟨⟨⟨⟨⟨rfl, h2⟩, h3⟩, h4⟩, h5⟩, h6, h7⟩ := h
      rw [wE]
      cases hh : es.isNil with
      | true =>
        rw [hh] at h2
        have hm : m = .pop := of_decide_eq_true (eq_of_beq h2).symm
        subst hm
        obtain ⟨rfl, rfl⟩ := args_nil h7 hh
        exact lb_of (le_pop (sE o ok h6).1 (base_of h4 _) h5) fun _ => rfl
      | false =>
        rw [hh] at h2
        have hm : m ≠ .pop := of_decide_eq_false (eq_of_beq h2).symm
        have hs := all_star h7
        have hA := sEs es ok h7
        obtain ⟨a, as, rfl⟩ := args_cons h7 hh
        refine lb_of (le_mth (sE o ok h6).1 hA hm (base_of h4 _) ?_ h5 (star_ok (by rw [List.all_cons, Bool.and_eq_true] at hs; exact hs.1) _ _) (star_any _ _ (by rw [List.all_cons, Bool.and_eq_true] at hs; exact hs.2))) fun _ => rfl
        rw [star_all _ _ hs]
        show (true && true && decide _) = true
        simp only [Bool.and_self, Bool.true_and, decide_eq_true_eq, List.isEmpty_nil, if_true, List.length_nil, Nat.add_zero]
        exact h3
    · cases h
  | .dget o k d, c, X, e, ok, h => by
    simp only [cE] at h
    split at h
    · simp only [Bool.and_eq_true, decide_eq_true_eq] at h
      obtain ⟨⟨⟨⟨⟨rfl, h2⟩, h3⟩, h4⟩, h5⟩, h6, h7, h8⟩ := h
      rename_i x apos y z cpos
      rw [wE]
      have s1 := star_ok h4 [z] X.env
      have s2 := star_ok h5 [] X.env
      refine lb_of (le_dget (by have := ok.hu; omega) (sE o ok h6).1 (sE k ok h7).1 (sE d ok h8).1 ⟨base_of h2 _, ?_, h3, ?_⟩) fun _ => rfl
      · rw [s1, s2]; rfl
      · rw [s1, s2]; rfl
    · cases h
  | .disp es, c, X, e, ok, h => by
    simp only [cE] at h
    split at h
    · simp only [Bool.and_eq_true, decide_eq_true_eq] at h
      obtain ⟨⟨h1, h2⟩, h3⟩ := h
      rw [wE]
      obtain ⟨q1, q2, q3⟩ := sPr es ok h3
      exact lb_of (le_disp (q1 _) q2 q3 h1 h2) fun _ => rfl
    · cases h
  | .lc vs g it t elt, c, X, e, ok, h => by
    simp only [cE] at h
    split at h
    · simp only [Bool.and_eq_true, decide_eq_true_eq] at h
      obtain ⟨⟨⟨⟨⟨⟨rfl, rfl⟩, h3⟩, h4⟩, h5⟩, h6⟩, h7, h8, h9⟩ := h
      rw [wE]
      have hb := blkOk_by h4
      refine lb_of (le_lc ok.calm ok.nd (fun j hj => ?_) (sI it ok h7) (by rw [ok.N, ok.sc]; exact hb) (fun s H C cl fp => pg_of (ok.blk hb.kind s H C cl fp) h5) (fun s H C cl fp => sC t (ok.blk hb.kind s H C cl fp) h8)
        (fun s H C cl fp => (sE elt (ok.blk hb.kind s H C cl fp) h9).1) (fold_of h6 _)) fun _ => rfl
      have := List.all_eq_true.mp h3 j hj
      simpa using this
    · cases h
  | .lcc .., c, X, e, ok, h => by simp only [cE] at h; cases h
  | .lrg .nil, c, X, e, ok, h => by
    simp only [cE] at h
    split at h
    · simp only [Bool.and_eq_true, decide_eq_true_eq, Bool.or_eq_true] at h
      obtain ⟨⟨_, h5⟩, h6⟩ := h
      obtain ⟨rfl, _⟩ := args_nil h6 rfl
      simp at h5
    · cases h
  | .lrg (.cons a .nil), c, X, e, ok, h => by
    simp only [cE] at h
    split at h
    · simp only [Bool.and_eq_true, decide_eq_true_eq, Bool.or_eq_true] at h
      obtain ⟨⟨⟨⟨⟨rfl, rfl⟩, h3⟩, h4⟩, h5⟩, h6⟩ := h
      rw [wE]
      obtain ⟨x, r, rfl⟩ := args_cons h6 rfl
      simp only [cEs, Bool.and_eq_true] at h6
      have hr : r = [] := by simpa using h6.2.2
      subst hr
      exact lb_of (le_lrg1 ok.calm (ok.gl h3) (ok.blt _ mem1) (ok.gl h4) (ok.blt _ mem1) (sE a ok h6.2.1).1 (star_ok h6.1 _ _)) fun _ => rfl
    · cases h
  | .lrg (.cons a (.cons b .nil)), c, X, e, ok, h => by
    simp only [cE] at h
    split at h
    · simp only [Bool.and_eq_true, decide_eq_true_eq, Bool.or_eq_true] at h
      obtain ⟨⟨⟨⟨⟨rfl, rfl⟩, h3⟩, h4⟩, h5⟩, h6⟩ := h
      rw [wE]
      obtain ⟨x, r, rfl⟩ := args_cons h6 rfl
      simp only [cEs, Bool.and_eq_true] at h6
      obtain ⟨g1, g2, h6⟩ := h6
      split at h6
      · rename_i y r
        simp only [Bool.and_eq_true] at h6
        have hr : r = [] := by simpa using h6.2.2
        subst hr
        exact lb_of (le_lrg2 ok.calm (ok.gl h3) (ok.blt _ mem1) (ok.gl h4) (ok.blt _ mem1) (sE a ok g2).1 (sE b ok h6.2.1).1 (star_ok g1 _ _) (star_ok h6.1 _ _)) fun _ => rfl
      · cases h6
    · cases h
  | .lrg (.cons a (.cons b (.cons d es))), c, X, e, ok, h => by
    simp only [cE] at h
    split at h
    · simp only [Bool.and_eq_true, decide_eq_true_eq, Bool.or_eq_true] at h
      obtain ⟨⟨_, h5⟩, h6⟩ := h
      exfalso
      simp only [cEs, Bool.and_eq_true] at h6
      split at h6
      · simp only [Bool.and_eq_true] at h6
        obtain ⟨_, _, h6⟩ := h6
        split at h6
        · simp only [Bool.and_eq_true] at h6
          obtain ⟨_, _, h6⟩ := h6
          split at h6
          · simp at h5
          · cases h6
        · cases h6
      · cases h6
    · cases h
  | .trg .nil, c, X, e, ok, h => by
    simp only [cE] at h
    split at h
    · simp only [Bool.and_eq_true, decide_eq_true_eq, Bool.or_eq_true] at h
      obtain ⟨⟨_, h5⟩, h6⟩ := h
      obtain ⟨rfl, _⟩ := args_nil h6 rfl
      simp at h5
    · cases h
  | .trg (.cons a .nil), c, X, e, ok, h => by
    simp only [cE] at h
    split at h
    · simp only [Bool.and_eq_true, decide_eq_true_eq, Bool.or_eq_true] at h
      obtain ⟨⟨⟨⟨⟨rfl, rfl⟩, h3⟩, h4⟩, h5⟩, h6⟩ := h
      rw [wE]
      obtain ⟨x, r, rfl⟩ := args_cons h6 rfl
      simp only [cEs, Bool.and_eq_true] at h6
      have hr : r = [] := by simpa using h6.2.2
      subst hr
      exact lb_of (le_trg1 ok.calm (ok.gl h3) (ok.blt _ mem1) (ok.gl h4) (ok.blt _ mem1) (sE a ok h6.2.1).1 (star_ok h6.1 _ _)) fun _ => rfl
    · cases h
  | .trg (.cons a (.cons b .nil)), c, X, e, ok, h => by
    simp only [cE] at h
    split at h
    · simp only [Bool.and_eq_true, decide_eq_true_eq, Bool.or_eq_true] at h
      obtain ⟨⟨⟨⟨⟨rfl, rfl⟩, h3⟩, h4⟩, h5⟩, h6⟩ := h
      rw [wE]
      obtain ⟨x, r, rfl⟩ := args_cons h6 rfl
      simp only [cEs, Bool.and_eq_true] at h6
      obtain ⟨g1, g2, h6⟩ := h6
      split at h6
      · rename_i y r
        simp only [Bool.and_eq_true] at h6
        have hr : r = [] := by simpa using h6.2.2
        subst hr
        exact lb_of (le_trg2 ok.calm (ok.gl h3) (ok.blt _ mem1) (ok.gl h4) (ok.blt _ mem1) (sE a ok g2).1 (sE b ok h6.2.1).1 (star_ok g1 _ _) (star_ok h6.1 _ _)) fun _ => rfl
      · cases h6
    · cases h
  | .trg (.cons a (.cons b (.cons d es))), c, X, e, ok, h => by
    simp only [cE] at h
    split at h
    · simp only [Bool.and_eq_true, decide_eq_true_eq, Bool.or_eq_true] at h
      obtain ⟨⟨_, h5⟩, h6⟩ := h
      exfalso
      simp only [cEs, Bool.and_eq_true] at h6
      split at h6
      · simp only [Bool.and_eq_true] at h6
        obtain ⟨_, _, h6⟩ := h6
        split at h6
        · simp only [Bool.and_eq_true] at h6
          obtain ⟨_, _, h6⟩ := h6
          split at h6
          · simp at h5
          · cases h6
        · cases h6
      · cases h6
    · cases h
  | .frz a, c, X, e, ok, h => by
    simp only [cE, Bool.and_eq_true] at h
    rw [wE]
    refine lb_of (le_frz (sE a ok h.2).1) ?_
    have h1 := h.1
    cases e <;> first | (intro _; rfl) | (simp only [plainT] at h1; cases h1)
  | .gc a, c, X, e, ok, h => by
    simp only [cE, Bool.and_eq_true] at h
    rw [wE]
    refine lb_of (le_gc (sE a ok h.2).1) ?_
    have h1 := h.1
    cases e <;> first | (intro _; rfl) | (simp only [plainT] at h1; cases h1)
  | .lstF es, c, X, e, ok, h => by
    simp only [cE] at h
    split at h
    · rw [wE]
      exact lb_of (le_lstF (sEs es ok h)) fun _ => rfl
    · cases h
  | .slF a lo hi, c, X, e, ok, h => by
    simp only [cE] at h
    split at h
    · simp only [Bool.and_eq_true] at h
      obtain ⟨h1, h2, h3⟩ := h
      rw [wE]
      exact lb_of (le_slF (sE a ok h1).1 (sO lo ok h2) (sO hi ok h3)) fun _ => rfl
    · cases h
  | .dct a, c, X, e, ok, h => by
    simp only [cE] at h
    split at h
    · simp only [Bool.and_eq_true, decide_eq_true_eq] at h
      obtain ⟨⟨⟨rfl, h3⟩, h5⟩, h6⟩ := h
      rw [wE]
      exact lb_of (le_dct ok.calm (ok.gl h3) (ok.blt _ mem1) (sE a ok h6).1 (star_ok h5 _ _)) fun _ => rfl
    · cases h
  | .dctF a, c, X, e, ok, h => by
    simp only [cE] at h
    split at h
    · simp only [Bool.and_eq_true, decide_eq_true_eq] at h
      obtain ⟨⟨⟨rfl, h3⟩, h5⟩, h6⟩ := h
      rw [wE]
      exact lb_of (le_dctF ok.calm (ok.gl h3) (ok.blt _ mem1) (sE a ok h6).1 (star_ok h5 _ _)) fun _ => rfl
    · cases h
  | .lccF vs vs1 g it t g1 it1 t1 elt, c, X, e, ok, h => by
    simp only [cE] at h
    split at h
    · simp only [Bool.and_eq_true, decide_eq_true_eq] at h
      obtain ⟨⟨⟨⟨⟨⟨⟨⟨⟨⟨⟨rfl, rfl⟩, rfl⟩, h3⟩, h3a⟩, h3b⟩, h4⟩, h5⟩, h5a⟩, h6⟩, h6a⟩, h7, h8, h9, h10, h11⟩ := h
      rw [wE]
      have hb := blkOk_by h4
      refine lb_of (le_lccF ok.calm ok.nd (fun j hj => ?_) (fun j hj => ?_) (sI it ok h7) (by rw [ok.N, ok.sc]; exact hb) (fun j hj => ?_) (fun s H C cl fp => pg_of (ok.blk hb.kind s H C cl fp) h5) (fun s H C cl fp => sC t (ok.blk hb.kind s H C cl fp) h8)
        (fun s H C cl fp => sI it1 (ok.blk hb.kind s H C cl fp) h9) (fun s H C cl fp => pg_of (ok.blk hb.kind s H C cl fp) h5a) (fun s H C cl fp => sC t1 (ok.blk hb.kind s H C cl fp) h10)
        (fun s H C cl fp => (sE elt (ok.blk hb.kind s H C cl fp) h11).1) (fold_of h6 _) (fun env => fold_of h6a env)) fun _ => rfl
      · have := List.all_eq_true.mp h3 j hj
        simpa using this
      · have := List.all_eq_true.mp h3a j hj
        simpa using this
      · have := List.all_eq_true.mp h3b j hj
        simpa using this
    · cases h
  | .sset a, c, X, e, ok, h => by
    simp only [cE] at h
    split at h
    · simp only [Bool.and_eq_true, decide_eq_true_eq] at h
      obtain ⟨⟨⟨⟨⟨rfl, rfl⟩, h3⟩, h4⟩, h5⟩, h6⟩ := h
      rw [wE]
      exact lb_of (le_sset ok.calm (ok.gl h3) (ok.blt _ mem1) (ok.gl h4) (ok.blt _ mem1) (sE a ok h6).1 (star_ok h5 _ _)) fun _ => rfl
    · cases h
  | .bltF f es, c, X, e, ok, h => by
    simp only [cE] at h
    split at h
    · simp only [Bool.and_eq_true, decide_eq_true_eq] at h
      obtain ⟨⟨⟨rfl, h2⟩, h3⟩, h4⟩ := h
      rw [wE]
      have hs := all_star h4
      have hA := sEs es ok h4
      obtain ⟨a, as, rfl⟩ := args_cons h4 (isNil_of h3)
      rw [List.all_cons, Bool.and_eq_true] at hs
      exact lb_of (le_bltF (bltF_ok ok.calm f) (ok.gl h2) (ok.blt _ (bf_mem f)) hA (star_ok hs.1 _ _) fun p => star_any _ p hs.2) fun _ => rfl
    · cases h
  | .lcF vs g it t elt, c, X, e, ok, h => by
    simp only [cE] at h
    split at h
    · simp only [Bool.and_eq_true, decide_eq_true_eq] at h
      obtain ⟨⟨⟨⟨⟨⟨rfl, rfl⟩, h3⟩, h4⟩, h5⟩, h6⟩, h7, h8, h9⟩ := h
      rw [wE]
      have hb := blkOk_by h4
      refine lb_of (le_lcF ok.calm ok.nd (fun j hj => ?_) (sI it ok h7) (by rw [ok.N, ok.sc]; exact hb) (fun s H C cl fp => pg_of (ok.blk hb.kind s H C cl fp) h5) (fun s H C cl fp => sC t (ok.blk hb.kind s H C cl fp) h8)
        (fun s H C cl fp => (sE elt (ok.blk hb.kind s H C cl fp) h9).1) (fold_of h6 _)) fun _ => rfl
      have := List.all_eq_true.mp h3 j hj
      simpa using this
    · cases h
  | .lrgF .nil, c, X, e, ok, h => by
    simp only [cE] at h
    split at h
    · simp only [Bool.and_eq_true, decide_eq_true_eq, Bool.or_eq_true] at h
      obtain ⟨⟨_, h5⟩, h6⟩ := h
      obtain ⟨rfl, _⟩ := args_nil h6 rfl
      simp at h5
    · cases h
  | .lrgF (.cons a .nil), c, X, e, ok, h => by
    simp only [cE] at h
    split at h
    · simp only [Bool.and_eq_true, decide_eq_true_eq, Bool.or_eq_true] at h
      obtain ⟨⟨⟨⟨⟨rfl, rfl⟩, h3⟩, h4⟩, h5⟩, h6⟩ := h
      rw [wE]
      obtain ⟨x, r, rfl⟩ := args_cons h6 rfl
      simp only [cEs, Bool.and_eq_true] at h6
      have hr : r = [] := by simpa using h6.2.2
      subst hr
      exact lb_of (le_lrgF1 ok.calm (ok.gl h3) (ok.blt _ mem1) (ok.gl h4) (ok.blt _ mem1) (sE a ok h6.2.1).1 (star_ok h6.1 _ _)) fun _ => rfl
    · cases h
  | .lrgF (.cons a (.cons b .nil)), c, X, e, ok, h => by
    simp only [cE] at h
    split at h
    · simp only [Bool.and_eq_true, decide_eq_true_eq, Bool.or_eq_true] at h
      obtain ⟨⟨⟨⟨⟨rfl, rfl⟩, h3⟩, h4⟩, h5⟩, h6⟩ := h
      rw [wE]
      obtain ⟨x, r, rfl⟩ := args_cons h6 rfl
      simp only [cEs, Bool.and_eq_true] at h6
      obtain ⟨g1, g2, h6⟩ := h6
      split at h6
      · rename_i y r
        simp only [Bool.and_eq_true] at h6
        have hr : r = [] := by simpa using h6.2.2
        subst hr
        exact lb_of (le_lrgF2 ok.calm (ok.gl h3) (ok.blt _ mem1) (ok.gl h4) (ok.blt _ mem1) (sE a ok g2).1 (sE b ok h6.2.1).1 (star_ok g1 _ _) (star_ok h6.1 _ _)) fun _ => rfl
      · cases h6
    · cases h
  | .lrgF (.cons a (.cons b (.cons d es))), c, X, e, ok, h => by
    simp only [cE] at h
    split at h
    · simp only [Bool.and_eq_true, decide_eq_true_eq, Bool.or_eq_true] at h
      obtain ⟨⟨_, h5⟩, h6⟩ := h
      exfalso
      simp only [cEs, Bool.and_eq_true] at h6
      split at h6
      · simp only [Bool.and_eq_true] at h6
        obtain ⟨_, _, h6⟩ := h6
        split at h6
        · simp only [Bool.and_eq_true] at h6
          obtain ⟨_, _, h6⟩ := h6
          split at h6
          · simp at h5
          · cases h6
        · cases h6
      · cases h6
    · cases h
theorem sEs : ∀ (p : Es) {c : Ctx} {X : Cx} {es : List Expr}, Ok c κ Γ X → cEs p c es = true → LA X es (wEs κ Γ p)
  | .nil, c, X, es, ok, h => by
    obtain ⟨rfl, _⟩ := args_nil h rfl
    rw [wEs]
    exact la_nil
  | .cons a as, c, X, es, ok, h => by
    obtain ⟨x, r, rfl⟩ := args_cons h rfl
    simp only [cEs, Bool.and_eq_true] at h
    rw [wEs]
    exact la_cons (sE a ok h.2.1).1 (sEs as ok h.2.2) (star_ok h.1 _ _)
theorem sPr : ∀ (p : Es) {c : Ctx} {X : Cx} {ks : List (Option Expr)} {vs : List Expr}, Ok c κ Γ X → cPr p c ks vs = true → (∀ pos, LPrs X pos ks vs (wEs κ Γ p)) ∧ ks.all (·.isSome) = true ∧ ks.length = vs.length
  | .nil, c, X, ks, vs, ok, h => by
    simp only [cPr, Bool.and_eq_true, List.isEmpty_iff] at h
    obtain ⟨rfl, rfl⟩ := h
    refine ⟨fun pos => ?_, rfl, rfl⟩
    rw [wEs]
    exact lprs_nil
  | .cons _ .nil, c, X, ks, vs, ok, h => by simp only [cPr] at h; cases h
  | .cons a (.cons b es), c, X, ks, vs, ok, h => by
    simp only [cPr] at h
    split at h
    · simp only [Bool.and_eq_true] at h
      obtain ⟨q1, q2, q3⟩ := sPr es ok h.2.2
      refine ⟨fun pos => ?_, by rw [List.all_cons, q2]; rfl, by rw [List.length_cons, List.length_cons, q3]⟩
      rw [wEs, wEs]
      exact lprs_cons (sE a ok h.1).1 (sE b ok h.2.1).1 (q1 pos)
    · cases h
theorem sBo : ∀ (p : Es) {c : Ctx} {X : Cx} {op : BoolOp} {es : List Expr}, Ok c κ Γ X → cEs p c es = true → p.isNil = false → (∀ pos, LE X (.BoolOp op es pos) (wB κ Γ op p)) ∧ ∀ pos, LW X (.BoolOp op es pos) (fun ρ S Q => wB κ Γ op p ρ S (truQ Q))
  | .nil, c, X, op, es, ok, h, hn => by cases hn
  | .cons a .nil, c, X, op, es, ok, h, hn => by
    obtain ⟨x, r, rfl⟩ := args_cons h rfl
    simp only [cEs, Bool.and_eq_true] at h
    have hr : r = [] := by simpa using h.2.2
    subst hr
    rw [wB]
    obtain ⟨q1, q2⟩ := sE a ok h.2.1
    refine ⟨fun pos => pe_one q1, fun pos => ?_⟩
    cases op with
    | And => exact pw_and1 q2
    | Or => exact pw_or1 q2
  | .cons a (.cons b as), c, X, op, es, ok, h, hn => by
    obtain ⟨x, r, rfl⟩ := args_cons h rfl
    simp only [cEs, Bool.and_eq_true] at h
    obtain ⟨g1, g2, h⟩ := h
    obtain ⟨q1, q2⟩ := sE a ok g2
    have h' : cEs (.cons b as) c r = true := by simp only [cEs]; exact h
    obtain ⟨r1, r2⟩ := sBo (.cons b as) (op := op) ok h' rfl
    obtain ⟨y, r, rfl⟩ := args_cons h' rfl
    rw [wB]
    · cases op with
      | And => exact ⟨fun pos => le_and q1 (r1 pos), fun pos => lw_and q2 (r2 pos)⟩
      | Or => exact ⟨fun pos => le_or q1 (r1 pos), fun pos => lw_or q2 (r2 pos)⟩
    · intro z; cases z
theorem sC : ∀ (p : Es) {c : Ctx} {X : Cx} {es : List Expr}, Ok c κ Γ X → cC p c es = true → PTs X es (liT X.K (wC κ Γ p))
  | .nil, c, X, es, ok, h => by
    simp only [cC] at h
    have hr : es = [] := by simpa using h
    subst hr
    rw [wC]
    refine ⟨fun pins s σ H Q I h => ?_⟩
    obtain ⟨ρ, S, Q0, re, rs, h, cl⟩ := h
    exact pts_nil.run pins s σ H Q I (cl true S H h (TExt.refl _ _) rs)
  | .cons a as, c, X, es, ok, h => by
    simp only [cC] at h
    split at h
    · simp only [Bool.and_eq_true] at h
      rw [wC]
      exact pts_one (sE a ok h.2).2
    · cases h
theorem sO : ∀ (p : Es) {c : Ctx} {X : Cx} {e : Option Expr}, Ok c κ Γ X → cO p c e = true → L2.PO X e (liO X.K (wO κ Γ p))
  | .nil, c, X, e, ok, h => by
    simp only [cO] at h
    split at h
    · rw [wO]; exact lo_none
    · cases h
  | .cons a as, c, X, e, ok, h => by
    simp only [cO] at h
    split at h
    · simp only [Bool.and_eq_true] at h
      rw [wO]
      exact lo_some (sE a ok h.2).1
    · cases h
theorem sI : ∀ (p : I) {c : Ctx} {X : Cx} {tg e : Expr}, Ok c κ Γ X → cI p c tg e = true → LI X tg e (wI κ Γ p)
  | .seq a, c, X, tg, e, ok, h => by
    simp only [cI] at h
    rw [wI]
    exact li_seq (sE a ok h).1
  | .rng es, c, X, tg, e, ok, h => by
    simp only [cI] at h
    split at h
    · simp only [Bool.and_eq_true, decide_eq_true_eq, Bool.or_eq_true] at h
      obtain ⟨⟨⟨rfl, h2⟩, h3⟩, h4⟩ := h
      have hs := all_star h4
      have hA := sEs es ok h4
      rw [wI]
      have hg := ok.gl h2
      have hm := ok.blt ("range" : Str) mem1
      rcases h3 with (h3 | h3) | h3
      · obtain ⟨x, r, rfl⟩ := len_cons h3
        have hr : r = [] := List.length_eq_zero_iff.mp (by simpa using h3)
        subst hr
        rw [List.all_cons, Bool.and_eq_true] at hs
        refine piW (li_rng1 hg hm hA (star_ok hs.1 _ _)) fun σ H R h => ?_
        obtain ⟨ρ, S, R0, re, rs, h, cl⟩ := h
        match es, h4, h with
        | .cons a .nil, h4, h =>
          refine ⟨ρ, S, R0, re, rs, ?_, cl⟩
          simp only [wEs] at h ⊢
          refine cast (congrArg (wE κ Γ a ρ S) ?_) h
          funext x S1
          cases x <;> simp
        | .cons a (.cons b bs), h4, h => simp [cEs] at h4
      · obtain ⟨x, r, rfl⟩ := len_cons h3
        obtain ⟨y, r, rfl⟩ : ∃ x r', r = x :: r' := List.exists_cons_of_length_pos (by simp at h3; omega)
        have hr : r = [] := List.length_eq_zero_iff.mp (by simpa using h3)
        subst hr
        rw [List.all_cons, Bool.and_eq_true, List.all_cons, Bool.and_eq_true] at hs
        refine piW (li_rng2 hg hm hA (by rw [star_ok hs.1, star_ok hs.2.1]; rfl) (star_ok hs.2.1 _ _)) fun σ H R h => ?_
        obtain ⟨ρ, S, R0, re, rs, h, cl⟩ := h
        match es, h4, h with
        | .cons a .nil, h4, h => simp [cEs] at h4
        | .cons a (.cons b .nil), h4, h =>
          refine ⟨ρ, S, R0, re, rs, ?_, cl⟩
          simp only [wEs] at h ⊢
          refine cast (congrArg (wE κ Γ a ρ S) ?_) h
          funext x S1
          refine congrArg (wE κ Γ b ρ S1) ?_
          funext y S2
          cases x <;> cases y <;> simp
          exact ⟨fun h => ⟨_, _, ⟨rfl, rfl⟩, h⟩, fun ⟨_, _, ⟨rfl, rfl⟩, h⟩ => h⟩
        | .cons a (.cons b (.cons d ds)), h4, h => simp [cEs] at h4
      · obtain ⟨x, r, rfl⟩ := len_cons h3
        obtain ⟨y, r, rfl⟩ : ∃ x r', r = x :: r' := List.exists_cons_of_length_pos (by simp at h3; omega)
        obtain ⟨z, r, rfl⟩ : ∃ x r', r = x :: r' := List.exists_cons_of_length_pos (by simp at h3; omega)
        have hr : r = [] := List.length_eq_zero_iff.mp (by simpa using h3)
        subst hr
        rw [List.all_cons, Bool.and_eq_true] at hs
        refine piW (li_rng3 hg hm hA (star_ok hs.1 _ _) (star_any _ _ hs.2)) fun σ H R h => ?_
        obtain ⟨ρ, S, R0, re, rs, h, cl⟩ := h
        match es, h4, h with
        | .cons a .nil, h4, h => simp [cEs] at h4
        | .cons a (.cons b .nil), h4, h => simp [cEs] at h4
        | .cons a (.cons b (.cons d .nil)), h4, h =>
          refine ⟨ρ, S, R0, re, rs, ?_, cl⟩
          simp only [wEs] at h ⊢
          refine cast (congrArg (wE κ Γ a ρ S) ?_) h
          funext x S1
          refine congrArg (wE κ Γ b ρ S1) ?_
          funext y S2
          refine congrArg (wE κ Γ d ρ S2) ?_
          funext z S3
          cases x <;> cases y <;> cases z <;> simp
          exact ⟨fun ⟨k, h⟩ => ⟨_, _, _, ⟨rfl, rfl, rfl⟩, k, h⟩, fun ⟨_, _, _, ⟨rfl, rfl, rfl⟩, k, h⟩ => ⟨k, h⟩⟩
        | .cons a (.cons b (.cons d (.cons f fs))), h4, h => simp [cEs] at h4
    · cases h
  | .enum a, c, X, tg, e, ok, h => by
    simp only [cI] at h
    split at h
    · simp only [Bool.and_eq_true, decide_eq_true_eq] at h
      obtain ⟨⟨⟨⟨rfl, h2⟩, h3⟩, h4⟩, h5⟩ := h
      rw [wI]
      cases tg <;> simp only [isTupT] at h3 <;> try cases h3
      exact li_enum (ok.gl h2) (ok.blt _ mem1) (sE a ok h5).1 (star_ok h4 _ _)
    · cases h
  | .zip a b, c, X, tg, e, ok, h => by
    simp only [cI] at h
    split at h
    · simp only [Bool.and_eq_true, decide_eq_true_eq] at h
      obtain ⟨⟨⟨⟨⟨rfl, h2⟩, h3⟩, h4⟩, h5⟩, h6, h7⟩ := h
      rw [wI]
      cases tg <;> simp only [isTupT] at h3 <;> try cases h3
      exact li_zip (ok.gl h2) (ok.blt _ mem1) (sE a ok h6).1 (sE b ok h7).1 (star_ok h4 _ _) (star_ok h5 _ _)
    · cases h
end
end
end PL

set_option Elab.async false
set_option linter.all false
set_option maxRecDepth 100000
set_option maxHeartbeats 4000000
/-! Statements; defs; a law's end. -/
namespace PL
open PySem PySem.Spec L2
section
variable {κ : Nat → PV} {Γ : Nat → Con}
theorem bkind {env : Env} (hk : env.scope.kind = .function) : env.blockKind = .function := by unfold Env.blockKind; rw [hk]; rfl
theorem swappedNone {sc : Scope} {ts : List Expr} {k : Nat} {p : Pos} {v : Expr} {env : Env} (hs : env.scope = sc) (hk : sc.kind = .function) (h : noSwapB sc ts v = true) : swappedStores [.Tuple ts k p] v env = pure none := by
  cases v <;> try rfl
  rename_i vs k2 p2
  have hb : env.blockKind = .function := bkind (by rw [hs]; exact hk)
  simp only [noSwapB, Bool.or_eq_true, Bool.and_eq_true] at h
  unfold swappedStores
  dsimp only
  by_cases h1 : (!(ts.length == 2 || ts.length == 3) || vs.length != ts.length || env.blockKind != .function) = true
  · rw [if_pos h1]
  · rw [if_neg h1]
    have h2 : vs.all notStar = true ∧ ((ts.filterMap (localN sc ((ts.head?.map (·.pos.line)).getD 0))).length != ts.length) = true := by
      rcases h with (h | h) | h
      · exfalso; apply h1; rw [h]; simp
      · exfalso; apply h1; rw [h]; simp
      · exact h
    split
    · rename_i h3
      exfalso
      obtain ⟨e, he, h4⟩ := List.any_eq_true.mp h3
      have := List.all_eq_true.mp h2.1 e he
      cases e <;> first | (cases h4; done) | cases this
    · split
      · rfl
      · rename_i h3
        exfalso
        apply h3
        rw [Bool.or_eq_true]
        left
        refine Eq.trans (congrArg (fun (l : List Str) => (l.length != ts.length)) (?_ : _ = List.filterMap (localN sc ((ts.head?.map (·.pos.line)).getD 0)) ts)) h2.2
        congr 1
        funext e
        cases e <;> try rfl
        simp only [localN, Env.kindOf, hs]
theorem swapsSole {t : Expr} (h : ∀ x p, t ≠ .Name x p) (v : Expr) (l : Nat) (env : Env) : swapsWithSole [t] v l env = pure false := by
  cases t <;> first | (exact absurd rfl (h _ _)) | (cases v <;> rfl)
theorem swappedTwo {sc : Scope} {x y : Str} {px py pt : Pos} {kt k2 : Nat} {pt2 : Pos} {p q : Expr} {env : Env} (hs : env.scope = sc) (hk : sc.kind = .function) (hx : sc.names.lookup x = some .local) (hy : sc.names.lookup y = some .local)
    (hl : (px.line == py.line) = true) (h1 : notStar p = true) (h2 : notStar q = true) (hxy : (x == y) = false) (hf : (foldedForSure 8 p && foldedForSure 8 q) = false) (hc : (constantsAlone 8 p && constantsAlone 8 q) = false) :
    swappedStores [.Tuple [.Name x px, .Name y py] kt pt] (.Tuple [p, q] k2 pt2) env = pure (some [x, y]) := by
  have hb : env.blockKind = .function := bkind (by rw [hs]; exact hk)
  have kx : env.kindOf x = some .local := by unfold Env.kindOf; rw [hs]; exact hx
  have ky : env.kindOf y = some .local := by unfold Env.kindOf; rw [hs]; exact hy
  have hl2 : (py.line == px.line) = true := by rw [beq_iff_eq] at hl ⊢; exact hl.symm
  have e1 : ([p, q].any fun | .Starred .. => true | _ => false) = false := by
    cases p <;> first | (cases h1; done) | (cases q <;> first | (cases h2; done) | rfl)
  unfold swappedStores
  dsimp only
  rw [hb]
  split
  · rename_i z; simp at z
  · split
    · rename_i z
      exfalso
      cases p <;> first | (cases h1; done) | (cases q <;> first | (cases h2; done) | (simp at z; done))
    · have e2 : ∀ (f : Expr → Option Str), f (.Name x px) = some x → f (.Name y py) = some y → List.filterMap f [Expr.Name x px, Expr.Name y py] = [x, y] := by
        intro f f1 f2
        rw [List.filterMap_cons, f1, List.filterMap_cons, f2]; rfl
      rw [e2 _ (by simp [kx, Expr.pos]) (by simp [ky, Expr.pos, hl2] <;> (simpa using hl2))]
      have e3 : ([x, y] : List Str).eraseDups = [x, y] := by
        have : y ≠ x := fun z => by rw [z] at hxy; simp at hxy
        simp [List.eraseDups_cons, List.filter_cons, this]
      rw [e3]
      split
      · rename_i z; simp at z
      · split
        · rename_i z
          exfalso
          simp only [List.all_cons, List.all_nil, Bool.and_true] at z
          rw [z] at hf; cases hf
        · split
          · rename_i z
            exfalso
            simp only [List.all_cons, List.all_nil, Bool.and_true] at z
            rw [z] at hc; cases hc
          · rfl
theorem swappedThree {sc : Scope} {x y z : Str} {px py pz pt : Pos} {kt k2 : Nat} {pt2 : Pos} {p q r : Expr} {env : Env} (hs : env.scope = sc) (hk : sc.kind = .function) (hx : sc.names.lookup x = some .local) (hy : sc.names.lookup y = some .local) (hz : sc.names.lookup z = some .local)
    (hl : (py.line == px.line) = true) (hl' : (pz.line == px.line) = true) (h1 : notStar p = true) (h2 : notStar q = true) (h3 : notStar r = true) (hyx : (y == x) = false) (hzx : (z == x) = false) (hzy : (z == y) = false) (hf : (foldedForSure 8 p && (foldedForSure 8 q && foldedForSure 8 r)) = false) (hc : (constantsAlone 8 p && (constantsAlone 8 q && constantsAlone 8 r)) = false) :
    swappedStores [.Tuple [.Name x px, .Name y py, .Name z pz] kt pt] (.Tuple [p, q, r] k2 pt2) env = pure (some [x, y, z]) := by
  have hb : env.blockKind = .function := bkind (by rw [hs]; exact hk)
  have kx : env.kindOf x = some .local := by unfold Env.kindOf; rw [hs]; exact hx
  have ky : env.kindOf y = some .local := by unfold Env.kindOf; rw [hs]; exact hy
  have kz : env.kindOf z = some .local := by unfold Env.kindOf; rw [hs]; exact hz
  unfold swappedStores
  dsimp only
  rw [hb]
  split
  · rename_i u; simp at u
  · split
    · rename_i u
      exfalso
      rw [List.any_eq_true] at u
      obtain ⟨v, hv, hu⟩ := u
      have h4 : notStar v = true := by
        simp only [List.mem_cons, List.not_mem_nil, or_false] at hv
        rcases hv with rfl | rfl | rfl <;> assumption
      cases v <;> first | (cases h4; done) | (cases hu; done)
    · have e2 : ∀ (f : Expr → Option Str), f (.Name x px) = some x → f (.Name y py) = some y → f (.Name z pz) = some z → List.filterMap f [Expr.Name x px, Expr.Name y py, Expr.Name z pz] = [x, y, z] := by
        intro f f1 f2 f3
        rw [List.filterMap_cons, f1, List.filterMap_cons, f2, List.filterMap_cons, f3]; rfl
      rw [e2 _ (by simp [kx, Expr.pos]) (by simp [ky, Expr.pos, hl] <;> (simpa using hl)) (by simp [kz, Expr.pos, hl'] <;> (simpa using hl'))]
      have e3 : ([x, y, z] : List Str).eraseDups = [x, y, z] := by
        have n1 : y ≠ x := fun e => by rw [e] at hyx; simp at hyx
        have n2 : z ≠ x := fun e => by rw [e] at hzx; simp at hzx
        have n3 : z ≠ y := fun e => by rw [e] at hzy; simp at hzy
        simp [List.eraseDups_cons, List.filter_cons, n1, n2, n3]
      rw [e3]
      split
      · rename_i u; simp at u
      · split
        · rename_i u
          exfalso
          simp only [List.all_cons, List.all_nil, Bool.and_true] at u
          rw [u] at hf; cases hf
        · split
          · rename_i u
            exfalso
            simp only [List.all_cons, List.all_nil, Bool.and_true] at u
            rw [u] at hc; cases hc
          · rfl
theorem notStarName {x : Str} {p : Pos} : notStar (.Name x p) = true := rfl
theorem aEach {t : Expr} (h : notStar t = true) (env : Env) : List.map (fun x => x.snd) (assignEach [t] env) = [assign t env] := by
  cases t <;> first | rfl | cases h
mutual
theorem sS : ∀ (p : Sm) {c : Ctx} {X : Cx} {s : Stmt}, Ok c κ Γ X → PassesOwn (model X.prog X.w) X.A X.env X.xe → cS p c s = true → LS X s (wS κ Γ p)
  | .set i e, c, X, s, ok, hp, h => by
    simp only [cS] at h
    split at h
    · rename_i x py v pos
      simp only [Bool.and_eq_true, decide_eq_true_eq, Bool.or_eq_true] at h
      obtain ⟨⟨⟨h1, h2⟩, h3⟩, h4⟩ := h
      obtain ⟨l1, l2⟩ := ok.sto _ h2
      have hi : X.N[i]? = some x := by rw [ok.N]; exact h1
      by_cases hn : notComp v = true
      · rw [wS]
        exact ls_set ok.nd hi l1 l2 (swaps_of hn _ _ _) (sE e ok h4).1
      · cases v <;> simp only [notComp, not_true_eq_false] at hn <;> simp [notComp] at h3
        rename_i elt gs scope p2
        by_cases hsw : (X.env.blockKind == .function && X.env.kindOf x == some .local && py.line == p2.line && !(scope.names.any fun (n, k) => n == x && (k == .local || k == .cell))) = true
        · have esw : ∀ l, swapsWith (.ListComp elt gs scope p2) (some (.Name x py)) l X.env = pure true := by
            intro l
            unfold swapsWith
            dsimp only [Expr.pos]
            rw [hsw]
          have hyl : X.env.scope.names.lookup x = some .local := by
            simp only [Bool.and_eq_true] at hsw
            have := hsw.1.1.2
            simpa [Env.kindOf] using this
          cases e with
          | lc vs g it t el =>
            simp only [cE] at h4
            split at h4
            · rename_i x0 tg iter ifs z scope0 p0 heq
              cases heq
              simp only [Bool.and_eq_true, decide_eq_true_eq] at h4
              obtain ⟨⟨⟨⟨⟨⟨rfl, rfl⟩, h3⟩, h4⟩, h5⟩, h6⟩, h7, h8, h9⟩ := h4
              have hb := blkOk_by h4
              rw [wS]
              simp only [wE]
              exact ls_setLc ok.calm ok.nd hi hyl (esw _) (fun j hj => by have := List.all_eq_true.mp h3 j hj; simpa using this) (sI it ok h7) (by rw [ok.N, ok.sc]; exact hb) (fun s H C cl fp => pg_of (ok.blk hb.kind s H C cl fp) h5)
                (fun s H C cl fp => sC t (ok.blk hb.kind s H C cl fp) h8) (fun s H C cl fp => (sE el (ok.blk hb.kind s H C cl fp) h9).1) (fold_of h6 _)
            · cases h4
          | lcF vs g it t el =>
            simp only [cE] at h4
            split at h4
            · rename_i x0 tg iter ifs z scope0 p0 heq
              cases heq
              simp only [Bool.and_eq_true, decide_eq_true_eq] at h4
              obtain ⟨⟨⟨⟨⟨⟨rfl, rfl⟩, h3⟩, h4⟩, h5⟩, h6⟩, h7, h8, h9⟩ := h4
              have hb := blkOk_by h4
              rw [wS]
              simp only [wE]
              exact ls_setLcF ok.calm ok.nd hi hyl (esw _) (fun j hj => by have := List.all_eq_true.mp h3 j hj; simpa using this) (sI it ok h7) (by rw [ok.N, ok.sc]; exact hb) (fun s H C cl fp => pg_of (ok.blk hb.kind s H C cl fp) h5)
                (fun s H C cl fp => sC t (ok.blk hb.kind s H C cl fp) h8) (fun s H C cl fp => (sE el (ok.blk hb.kind s H C cl fp) h9).1) (fold_of h6 _)
            · cases h4
          | lccF vs vs1 g it t g1 it1 t1 el =>
            simp only [cE] at h4
            split at h4
            · rename_i x0 tg iter ifs z tg1 iter1 ifs1 z1 scope0 p0 heq
              cases heq
              simp only [Bool.and_eq_true, decide_eq_true_eq] at h4
              obtain ⟨⟨⟨⟨⟨⟨⟨⟨⟨⟨⟨rfl, rfl⟩, rfl⟩, h3⟩, h3a⟩, h3b⟩, h4⟩, h5⟩, h5a⟩, h6⟩, h6a⟩, h7, h8, h9, h10, h11⟩ := h4
              have hb := blkOk_by h4
              rw [wS]
              simp only [wE]
              exact ls_setLccF ok.calm ok.nd hi hyl (esw _) (fun j hj => by have := List.all_eq_true.mp h3 j hj; simpa using this) (fun j hj => by have := List.all_eq_true.mp h3a j hj; simpa using this) (sI it ok h7) (by rw [ok.N, ok.sc]; exact hb) (fun j hj => by have := List.all_eq_true.mp h3b j hj; simpa using this)
                (fun s H C cl fp => pg_of (ok.blk hb.kind s H C cl fp) h5) (fun s H C cl fp => sC t (ok.blk hb.kind s H C cl fp) h8) (fun s H C cl fp => sI it1 (ok.blk hb.kind s H C cl fp) h9) (fun s H C cl fp => pg_of (ok.blk hb.kind s H C cl fp) h5a) (fun s H C cl fp => sC t1 (ok.blk hb.kind s H C cl fp) h10)
                (fun s H C cl fp => (sE el (ok.blk hb.kind s H C cl fp) h11).1) (fold_of h6 _) (fun env => fold_of h6a env)
            · cases h4
          | _ => simp [cE, plainT] at h4
        · have esw : ∀ l, swapsWith (.ListComp elt gs scope p2) (some (.Name x py)) l X.env = pure false := by
            intro l
            unfold swapsWith
            dsimp only [Expr.pos]
            rw [Bool.not_eq_true] at hsw
            rw [hsw]
          rw [wS]
          exact ls_set ok.nd hi l1 l2 (esw _) (sE e ok h4).1
    · cases h
  | .tup is e, c, X, s, ok, hp, h => by
    simp only [cS] at h
    split at h
    · simp only [Bool.and_eq_true] at h
      obtain ⟨⟨h1, h2⟩, h3⟩ := h
      rw [wS]
      exact ls_asg (g := .tup is) (pg_of ok h1) (swapsSole (by intro _ _ z; cases z) _ _ _) (swappedNone ok.sc ok.kd h2) (aEach rfl _) (sE e ok h3).1
    · cases h
  | .par i j a b, c, X, s, ok, hp, h => by
    simp only [cS] at h
    split at h
    · simp only [Bool.and_eq_true, decide_eq_true_eq, Bool.not_eq_true'] at h
      obtain ⟨⟨⟨⟨⟨⟨⟨⟨⟨⟨⟨h1, h2⟩, h3⟩, h4⟩, h5⟩, h6⟩, h7⟩, h8⟩, h9⟩, h10⟩, h11⟩, h12, h13⟩ := h
      rw [wS]
      exact ls_par ok.calm ok.nd (by rw [ok.N]; exact h1) (by rw [ok.N]; exact h2) (by simpa using h3) (by rw [ok.sc]; exact h4) (by rw [ok.sc]; exact h5) (sE a ok h12).1 (sE b ok h13).1 (star_ok h7 _ _) (star_ok h8 _ _)
        (swappedTwo ok.sc ok.kd h4 h5 h6 h7 h8 h9 h10 h11)
    · cases h
  | .par3 i j l a b d, c, X, s, ok, hp, h => by
    simp only [cS] at h
    split at h
    · simp only [Bool.and_eq_true, decide_eq_true_eq, Bool.not_eq_true'] at h
      obtain ⟨⟨⟨⟨⟨⟨⟨⟨⟨n1, n2⟩, n3⟩, ⟨i1, i2⟩, i3⟩, ⟨l1, l2⟩, l3⟩, p1, p2⟩, ⟨s1, s2⟩, s3⟩, ⟨d1, d2⟩, d3⟩, f1, f2⟩, h1, h2, h3⟩ := h
      rw [wS]
      exact ls_par3 ok.calm ok.nd (by rw [ok.N]; exact n1) (by rw [ok.N]; exact n2) (by rw [ok.N]; exact n3) (by simpa using i1) (by simpa using i2) (by simpa using i3) (by rw [ok.sc]; exact l1) (by rw [ok.sc]; exact l2) (by rw [ok.sc]; exact l3)
        (sE a ok h1).1 (sE b ok h2).1 (sE d ok h3).1 (star_ok s1 _ _) (star_ok s2 _ _) (star_ok s3 _ _) (swappedThree ok.sc ok.kd l1 l2 l3 p1 p2 s1 s2 s3 d1 d2 d3 f1 f2)
    · cases h
  | .put o i e, c, X, s, ok, hp, h => by
    simp only [cS] at h
    split at h
    · rename_i x y p0 v pos
      simp only [Bool.and_eq_true] at h
      obtain ⟨h1, h2, h3, h4⟩ := h
      rw [wS]
      refine ls_put ok.hu (fun u => ?_) (swapsSole (by intro _ _ z; cases z) _ _ _) ?_ (aEach rfl _) (sE e ok h2).1 (sE o ok h3).1 (sE i ok h4).1
      · cases y <;> first | rfl | cases h1
      · cases v <;> rfl
    · cases h
  | .exp e, c, X, s, ok, hp, h => by
    simp only [cS] at h
    split at h
    · simp only [Bool.and_eq_true] at h
      rw [wS]
      exact ls_exp (swaps_of h.1 _ _ _) (sE e ok h.2).1
    · cases h
  | .ret e, c, X, s, ok, hp, h => by
    simp only [cS] at h
    split at h
    · rw [wS]
      exact ls_ret (sE e ok h).1
    · cases h
  | .retN, c, X, s, ok, hp, h => by
    simp only [cS] at h
    split at h
    · rw [wS]
      exact ls_retN
    · cases h
  | .ite t a b, c, X, s, ok, hp, h => by
    simp only [cS] at h
    split at h
    · simp only [Bool.and_eq_true] at h
      rw [wS]
      exact ls_ite (sE t ok h.1).2 (sSs a ok hp h.2.1) (sSs b ok hp h.2.2)
    · cases h
  | .fo g it b, c, X, s, ok, hp, h => by
    simp only [cS] at h
    split at h
    · simp only [Bool.and_eq_true] at h
      obtain ⟨⟨h1, h2⟩, h3, h4⟩ := h
      rw [wS]
      exact ls_fo hp ok.calm (sI it ok h3) (pg_of ok h1) (sSs b ok hp h4) (fold_of h2 _)
    · cases h
  | .wh t b, c, X, s, ok, hp, h => by
    simp only [cS] at h
    split at h
    · simp only [Bool.and_eq_true] at h
      rw [wS]
      exact ls_wh hp (sE t ok h.1).2 (sSs b ok hp h.2)
    · cases h
  | .brk, c, X, s, ok, hp, h => by
    simp only [cS] at h
    split at h
    · rw [wS]; exact ls_brk
    · cases h
  | .cont, c, X, s, ok, hp, h => by
    simp only [cS] at h
    split at h
    · rw [wS]; exact ls_cont
    · cases h
  | .pass, c, X, s, ok, hp, h => by
    simp only [cS] at h
    split at h
    · rw [wS]; exact ls_pass
    · cases h
  | .never, c, X, s, ok, hp, h => by
    rw [wS]; exact ls_never
theorem sSs : ∀ (p : List Sm) {c : Ctx} {X : Cx} {s : List Stmt}, Ok c κ Γ X → PassesOwn (model X.prog X.w) X.A X.env X.xe → cSs p c s = true → LSs X s (wSs κ Γ p)
  | [], c, X, s, ok, hp, h => by
    cases s with
    | nil => rw [wSs]; exact lss_nil
    | cons _ _ => simp [cSs] at h
  | a :: as, c, X, s, ok, hp, h => by
    cases s with
    | nil => simp [cSs] at h
    | cons e r =>
      simp only [cSs, Bool.and_eq_true] at h
      rw [wSs]
      exact lss_cons (sS a ok hp h.1) (sSs as ok hp h.2)
end
end
/-! ### defs -/
structure FnHas (P : Program) (w : World) (K : Fr8) (mg : Str → Option Value) (base : Heap) (x : Str) (k n : Nat) (Φ : Con) : Prop where
  ex : ∃ (f : Addr) (fd : FuncData) (ps : List Str), mg x = some (.ref f) ∧ PySem.W.keepIn K (.ref f) = true ∧ FnOk P w K mg base CX0 k f fd ps (liSp K n Φ) ∧ Binds K fd ps []
  len : ∀ xs S Q, Φ xs S Q → xs.length = n
theorem FnHas.g {P : Program} {w : World} {K : Fr8} {mg : Str → Option Value} {base : Heap} {x : Str} {k j n : Nat} {Φ : Con} {A : Around} (h : FnHas P w K mg base x j n Φ) (hr : Room k A) (hj : j ≤ k) : FnG P w K mg base A x n Φ := by
  obtain ⟨f, fd, ps, h1, h2, h3, h4⟩ := h.ex
  exact ⟨f, fd, ps, j, h1, h2, h3, h4, hr.mono hj⟩
@[simp] def conAt (l : List Con) (j : Nat) : Con := match l[j]? with
  | some c => c
  | none => fun _ _ _ => False
@[simp] def pvAt (l : List PV) (j : Nat) : PV := match l[j]? with
  | some c => c
  | none => .non
def FnsOk (P : Program) (w : World) (K : Fr8) (mg : Str → Option Value) (base : Heap) (k : Nat) : List Str → List Con → Prop
  | [], _ => True
  | x :: xs, c :: cs => (∃ j n, j ≤ k ∧ FnHas P w K mg base x j n c) ∧ FnsOk P w K mg base k xs cs
  | _ :: _, [] => False
theorem FnsOk.at {P : Program} {w : World} {K : Fr8} {mg : Str → Option Value} {base : Heap} {k : Nat} : ∀ {xs : List Str} {cs : List Con}, FnsOk P w K mg base k xs cs → ∀ (j : Nat) (x : Str), xs[j]? = some x → ∃ i n, i ≤ k ∧ FnHas P w K mg base x i n (conAt cs j)
  | [], _, _, j, x, e => by simp at e
  | _ :: _, [], h, _, _, _ => h.elim
  | x :: xs, c :: cs, h, 0, y, e => by simp at e; subst e; exact h.1
  | x :: xs, c :: cs, h, j + 1, y, e => by
    obtain ⟨i, n, q⟩ := FnsOk.at h.2 j y (by simpa using e)
    exact ⟨i, n, by simpa [conAt] using q⟩
def CnsOk (K : Fr8) (mg : Str → Option Value) : List Str → List PV → Prop
  | [], _ => True
  | x :: xs, c :: cs => (∃ u v, mg x = some u ∧ RelV v u ∧ ∀ H, RepV K H c v) ∧ CnsOk K mg xs cs
  | _ :: _, [] => False
theorem CnsOk.at {K : Fr8} {mg : Str → Option Value} : ∀ {xs : List Str} {cs : List PV}, CnsOk K mg xs cs → ∀ (j : Nat) (x : Str), xs[j]? = some x → ∃ u v, mg x = some u ∧ RelV v u ∧ ∀ H, RepV K H (pvAt cs j) v
  | [], _, _, j, x, e => by simp at e
  | _ :: _, [], h, _, _, _ => h.elim
  | x :: xs, c :: cs, h, 0, y, e => by simp at e; subst e; exact h.1
  | x :: xs, c :: cs, h, j + 1, y, e => by
    obtain ⟨u, v, q⟩ := CnsOk.at h.2 j y (by simpa using e)
    exact ⟨u, v, by simpa [pvAt] using q⟩
/-- what a def gives back: what the store holds besides is forgotten -/
@[simp] def rets (Q : PK1) : PEnds where
  nx := fun _ S1 => ∃ S2, SubS S2 S1 ∧ Q .non S2
  rt := fun v S1 => ∃ S2, SubS S2 S1 ∧ Q v S2
@[simp] def startP (n : Nat) (xs : List PV) : Nv := xs.map some ++ List.replicate (n - xs.length) none
theorem start_rep {K : Fr8} {H : Hp} {N : List Str} {xs : List PV} {vs : List V} (r : RepVs K H xs vs) : RepE K H (startP N.length xs) (L2.start N vs) := by
  refine ⟨by simp [startP, L2.start, r.length], fun i x e => ?_⟩
  unfold startP at e
  unfold L2.start
  by_cases h : i < xs.length
  · rw [List.getElem?_append_left (by simpa using h), List.getElem?_map] at e
    cases e2 : xs[i]? with
    | none => rw [e2] at e; simp at e
    | some y =>
      rw [e2] at e
      simp at e
      subst e
      obtain ⟨v, h1, h2⟩ := r.get e2
      exact ⟨v, by rw [List.getElem?_append_left (by rw [List.length_map, ← r.length]; exact h), List.getElem?_map, h1]; rfl, h2⟩
  · rw [List.getElem?_append_right (by simpa using h)] at e
    rw [List.getElem?_replicate] at e
    split at e <;> simp at e
theorem fn_ok {P : Program} {w : World} {K : Fr8} {mg : Str → Option Value} {base : Heap} {x qual : Str} {st : Stmt} {f : Addr} {fd : FuncData} {N ps : List Str} {k : Nat} {fns cns : List Str} {Γl : List Con} {κl : List PV} {body : List Sm} {Φ : Con}
    (F : L2.Fun K x qual st f fd) (S : FnScope N ps (defScope st)) (chk : cSs body ⟨N, defScope st, none, fns, cns⟩ (defBody st) = true) (hf : FnsOk P w K mg base k fns Γl) (hc : CnsOk K mg cns κl) (hb : ∀ y, y ∈ bltNames → mg y = none)
    (hlen : ∀ xs S Q, Φ xs S Q → xs.length = ps.length) (vc : ∀ xs S Q, Φ xs S Q → wSs (pvAt κl) (conAt Γl) body (rets Q) (startP N.length xs) S) : FnOk P w K mg base CX0 (k + 1) f fd ps (liSp K ps.length Φ) := by
  refine F.ok S (fun vs H Q E h => h.1) fun cdv A outer s H vs Q E hr h => ?_
  obtain ⟨hl, xs, S0, Q0, rv, rs, hΦ, cl⟩ := h
  refine ⟨_, sSs (κ := pvAt κl) (Γ := conAt Γl) body ?_ PassesOwn.never chk, ?_⟩
  · refine ⟨rfl, rfl, S.kind, rfl, S.nd, fun y hy => ?_, ?_, fun j y e => ?_, fun j y e => hc.at j y e, hb⟩
    · unfold stoB at hy
      split at hy
      · rename_i e; exact ⟨.inl e, .inr e⟩
      · rename_i e; exact ⟨.inr e, .inl rfl⟩
      · cases hy
    · have := hr.un
      show (A.deeper _).units + 65 < cLine
      omega
    · obtain ⟨i, n, hi, h2⟩ := hf.at j y e
      exact ⟨n, h2.g hr hi, h2.len⟩
  · refine ⟨startP N.length xs, S0, rets Q0, start_rep rv, rs, vc xs S0 Q0 hΦ, ?_⟩
    refine ⟨?_, ?_, ?_, ?_⟩
    · rintro ρ S' H' σ ⟨S2, sub, q⟩ t s' r
      exact cl _ _ _ _ q t (s'.sub sub) .non
    · rintro v S' H' u ⟨S2, sub, q⟩ t s' r
      exact cl _ _ _ _ q t (s'.sub sub) r
    · intro ρ S' H' σ q; exact q.elim
    · intro ρ S' H' σ q; exact q.elim
theorem fn_has {P : Program} {w : World} {K : Fr8} {mg : Str → Option Value} {base : Heap} {x : Str} {f : Addr} {fd : FuncData} {ps : List Str} {k : Nat} {Φ : Con} (G : FnOk P w K mg base CX0 k f fd ps (liSp K ps.length Φ)) (hm : mg x = some (.ref f)) (hk : PySem.W.keepIn K (.ref f) = true) (hb : Binds K fd ps [])
    (hlen : ∀ xs S Q, Φ xs S Q → xs.length = ps.length) : FnHas P w K mg base x k ps.length Φ := ⟨⟨f, fd, ps, hm, hk, G, hb⟩, hlen⟩
/-! ### a law -/
def spLaw (K : Fr8) : Sp := fun vs H Q _ => ∃ (a : Addr) (ns : List Int), vs = [.ref a] ∧ SqL K H a (ns.map V.int) ∧ ns.length ≤ 63 ∧ ∀ H', Q (.bl true) H'
def conLaw : Con := fun xs S Q => ∃ (x : PV) (ns : List Int), xs = [x] ∧ itemsP x S = some (ns.map PV.int) ∧ listP x S = some (ns.map PV.int) ∧ ns.length ≤ 63 ∧ ∀ S', Q (.bl true) S'
theorem law_imp {K : Fr8} : ∀ vs H Q E, spLaw K vs H Q E → liSp K 1 conLaw vs H Q E := by
  rintro vs H Q E ⟨a, ns, rfl, hS, hl, hq⟩
  refine ⟨rfl, ?_⟩
  have cl : ClE K H (fun v _ => v = .bl true) Q := by
    intro x S' H' v e t s r
    subst e
    cases r
    exact hq H'
  rcases hS with (h | ⟨o, h⟩) | h
  · refine ⟨[.ref a], fun b => if b = a then some (.lst (ns.map PV.int)) else none, _, .cons (.ref a) .nil, fun b o e => ?_, ⟨.ref a, ns, rfl, ?_, ?_, hl, fun _ => rfl⟩, cl⟩
    · by_cases hb : b = a
      · subst hb; simp at e; subst e; exact ⟨_, h, RepVs.ints ns⟩
      · simp [hb] at e
    · simp [itemsP]
    · simp [listP]
  · exact ⟨[.rol (ns.map PV.int)], fun _ => none, _, .cons (.rol (.inl ⟨o, h⟩) (RepVs.ints ns)) .nil, fun b o e => by simp at e, ⟨_, ns, rfl, rfl, rfl, hl, fun _ => rfl⟩, cl⟩
  · exact ⟨[.rol (ns.map PV.int)], fun _ => none, _, .cons (.rol (.inr h) (RepVs.ints ns)) .nil, fun b o e => by simp at e, ⟨_, ns, rfl, rfl, rfl, hl, fun _ => rfl⟩, cl⟩
theorem conLaw_len : ∀ xs S Q, conLaw xs S Q → xs.length = 1 := by
  rintro xs S Q ⟨x, ns, rfl, _⟩; rfl
end PL

set_option Elab.async false
set_option linter.all false
set_option maxRecDepth 100000
set_option maxHeartbeats 4000000
/-! Words for working with the small language's meaning. -/
namespace PL
open PySem PySem.Spec
section
variable {S : Sto} {Q : PK1} {QB : Bool → Sto → Prop} {i j : Int} {b : Bool} {xs ys : List PV} {p q : Addr} {x y : PV} {z : Str}
@[simp] theorem CPow_eq : L2.CPow i j = (0 ≤ j ∧ j ≤ 1000000 ∧ i.natAbs < 2 ^ 64) := rfl
@[simp] theorem CMul_eq : L2.CMul i j = ((-(2 ^ 64) < i ∧ i < 2 ^ 64) ∨ (-(2 ^ 64) < j ∧ j < 2 ^ 64)) := rfl
theorem blt_list_items {ys : List PV} (h : itemsP x S = some ys) : bltP .list [x] S Q = ∀ p, S p = none → Q (.ref p) (updS S p (.lst ys)) := by simp only [bltP, h]
theorem blt_tup_items {ys : List PV} (h : itemsP x S = some ys) : bltP .tuple [x] S Q = Q (.tup ys) S := by simp only [bltP, h]
@[simp] theorem bo1 : (BoolOp.Or == BoolOp.And) = false := rfl
@[simp] theorem bo2 : (BoolOp.And == BoolOp.And) = true := rfl
@[simp] theorem upd_eq {o : PO} : updS S p o p = some o := updS_same
theorem ne_free {o : PO} (h : S p = some o) (h' : S q = none) : p ≠ q := fun e => by rw [e, h'] at h; cases h
@[simp] theorem tyOf_non : tyOf .non S = some "NoneType" := rfl
@[simp] theorem tyOf_bl : tyOf (.bl b) S = some "bool" := rfl
@[simp] theorem tyOf_int : tyOf (.int i) S = some "int" := rfl
@[simp] theorem tyOf_str : tyOf (.str z) S = some "str" := rfl
@[simp] theorem tyOf_tup : tyOf (.tup xs) S = some "tuple" := rfl
@[simp] theorem tyOf_rol : tyOf (.rol xs) S = some "list" := rfl
theorem tyOf_ref (h : S p = some (.lst xs)) : tyOf (.ref p) S = some "list" := by simp only [tyOf, h]
@[simp] theorem truP_non : truP .non S = some false := rfl
@[simp] theorem truP_bl : truP (.bl b) S = some b := rfl
@[simp] theorem truP_int : truP (.int i) S = some (i != 0) := rfl
@[simp] theorem truP_tup : truP (.tup xs) S = some (!xs.isEmpty) := rfl
@[simp] theorem truQ_non : truQ QB .non S = QB false S := rfl
@[simp] theorem truQ_bl : truQ QB (.bl b) S = QB b S := rfl
@[simp] theorem truQ_int : truQ QB (.int i) S = QB (i != 0) S := rfl
@[simp] theorem truQ_tup : truQ QB (.tup xs) S = QB (!xs.isEmpty) S := rfl
@[simp] theorem intP_int {C : Int → Int → Prop} {f : Int → Int → PV} : intP C f (.int i) (.int j) S Q = (C i j ∧ Q (f i j) S) := rfl
@[simp] theorem addP_int : addP (.int i) (.int j) S Q = Q (.int (i + j)) S := rfl
@[simp] theorem addP_tup : addP (.tup xs) (.tup ys) S Q = (xs.length + ys.length ≤ sizeLine ∧ Q (.tup (xs ++ ys)) S) := rfl
theorem addP_lst (h : S p = some (.lst xs)) (h' : S q = some (.lst ys)) (hl : xs.length + ys.length ≤ sizeLine) (k : ∀ p, S p = none → Q (.ref p) (updS S p (.lst (xs ++ ys)))) : addP (.ref p) (.ref q) S Q := by
  simp only [addP, h, h']; exact ⟨hl, k⟩
@[simp] theorem mulP_int : mulP (.int i) (.int j) S Q = ((L2.CMul i j ∨ L2.CMulW i j) ∧ Q (.int (i * j)) S) := rfl
@[simp] theorem mulP_tup : mulP (.tup xs) (.int j) S Q = ((xs ≠ [] ∧ 2 ≤ j ∧ j ≤ 1000 ∧ xs.length ≤ 1000) ∧ Q (.tup (List.replicate j.toNat xs).flatten) S) := rfl
theorem mulP_lst (h : S p = some (.lst xs)) : mulP (.ref p) (.int j) S Q = ((-(2 ^ 63) ≤ j ∧ j < 2 ^ 63 ∧ xs.length * j.toNat ≤ sizeLine) ∧ ∀ p, S p = none → Q (.ref p) (updS S p (.lst (List.replicate j.toNat xs).flatten))) := by simp only [mulP, h]
@[simp] theorem ordP_int {f : Int → Int → Bool} : ordP f (.int i) (.int j) S Q = Q (.bl (f i j)) S := rfl
@[simp] theorem isP_non {neg : Bool} : isP neg .non .non S Q = Q (.bl (neg ^^ true)) S := rfl
@[simp] theorem isP_bl {neg b : Bool} : isP neg (.bl b) .non S Q = Q (.bl (neg ^^ false)) S := rfl
@[simp] theorem isP_int {neg : Bool} : isP neg (.int i) .non S Q = Q (.bl (neg ^^ false)) S := rfl
@[simp] theorem isP_str {neg : Bool} : isP neg (.str z) .non S Q = Q (.bl (neg ^^ false)) S := rfl
@[simp] theorem isP_tup {neg : Bool} : isP neg (.tup xs) .non S Q = Q (.bl (neg ^^ false)) S := rfl
@[simp] theorem isP_ref {neg : Bool} : isP neg (.ref p) .non S Q = Q (.bl (neg ^^ false)) S := rfl
@[simp] theorem isP_bb {neg a b : Bool} : isP neg (.bl a) (.bl b) S Q = Q (.bl (neg ^^ decide (a = b))) S := rfl
@[simp] theorem listP_rol : listP (.rol xs) S = some xs := rfl
@[simp] theorem itemsP_tup : itemsP (.tup xs) S = some xs := rfl
@[simp] theorem itemsP_rol : itemsP (.rol xs) S = some xs := rfl
@[simp] theorem listP_tup : listP (.tup xs) S = none := rfl
@[simp] theorem listP_int : listP (.int i) S = none := rfl
theorem listP_ref (h : S p = some (.lst xs)) : listP (.ref p) S = some xs := by simp only [listP, h]
theorem itemsP_ref (h : S p = some (.lst xs)) : itemsP (.ref p) S = some xs := by simp only [itemsP, h]
@[simp] theorem listP_upd : listP (.ref p) (updS S p (.lst xs)) = some xs := by simp [listP]
@[simp] theorem itemsP_upd : itemsP (.ref p) (updS S p (.lst xs)) = some xs := by simp [itemsP]
@[simp] theorem seqG_tup : seqG (.tup xs) S = fun _ => True := rfl
@[simp] theorem seqG_rol : seqG (.rol xs) S = fun _ => True := rfl
@[simp] theorem isiP_known {T : Ty} {t : String} (h : tyOf x S = some t) : isiP T x S Q = Q (.bl (isTy t T)) S := by simp only [isiP, h]
@[simp] theorem blt_len_tup : bltP .len [.tup xs] S Q = Q (.int xs.length) S := rfl
theorem blt_len_lst (h : S p = some (.lst xs)) : bltP .len [.ref p] S Q = Q (.int xs.length) S := by simp only [bltP, itemsP, h]
@[simp] theorem blt_len_upd : bltP .len [.ref p] (updS S p (.lst xs)) Q = Q (.int xs.length) (updS S p (.lst xs)) := by simp [bltP]
@[simp] theorem blt_abs : bltP .abs [.int i] S Q = Q (.int i.natAbs) S := rfl
@[simp] theorem blt_max2 : bltP .max2 [.int i, .int j] S Q = Q (.int (max i j)) S := rfl
@[simp] theorem blt_min2 : bltP .min2 [.int i, .int j] S Q = Q (.int (min i j)) S := rfl
@[simp] theorem blt_int : bltP .int [.int i] S Q = Q (.int i) S := rfl
@[simp] theorem blt_tup_tup : bltP .tuple [.tup xs] S Q = Q (.tup xs) S := rfl
theorem blt_tup_lst (h : S p = some (.lst xs)) : bltP .tuple [.ref p] S Q = Q (.tup xs) S := by simp only [bltP, itemsP, h]
@[simp] theorem blt_tup_upd : bltP .tuple [.ref p] (updS S p (.lst xs)) Q = Q (.tup xs) (updS S p (.lst xs)) := by simp [bltP]
@[simp] theorem blt_list_tup : bltP .list [.tup xs] S Q = ∀ p, S p = none → Q (.ref p) (updS S p (.lst xs)) := rfl
@[simp] theorem blt_list_rol : bltP .list [.rol xs] S Q = ∀ p, S p = none → Q (.ref p) (updS S p (.lst xs)) := rfl
theorem blt_list_lst (h : S p = some (.lst xs)) : bltP .list [.ref p] S Q = ∀ p, S p = none → Q (.ref p) (updS S p (.lst xs)) := by simp only [bltP, itemsP, h]
theorem blsP_map {α : Type} (f : α → Bool) (l : List α) : blsP (l.map fun a => .bl (f a)) = some (l.map f) := by
  induction l with
  | nil => rfl
  | cons a l ih => simp only [List.map_cons, blsP, ih]; rfl
theorem intsP_map {α : Type} (f : α → Int) (l : List α) : intsP (l.map fun a => .int (f a)) = some (l.map f) := by
  induction l with
  | nil => rfl
  | cons a l ih => simp only [List.map_cons, intsP, ih]; rfl
@[simp] theorem intsP_map' (l : List Int) : intsP (l.map .int) = some l := by
  have := intsP_map id l
  simpa using this
theorem blt_all {bs : List Bool} (h : (listP x S).bind blsP = some bs) : bltP .all [x] S Q = Q (.bl (bs.all id)) S := by simp only [bltP, h]
theorem blt_any {bs : List Bool} (h : (listP x S).bind blsP = some bs) : bltP .any [x] S Q = Q (.bl (bs.any id)) S := by simp only [bltP, h]
theorem blt_sum {ns : List Int} (h : (listP x S).bind intsP = some ns) : bltP .sum [x] S Q = Q (.int ns.sum) S := by simp only [bltP, h]
theorem idxP_tup {v : PV} (h : L2.atI xs i = some v) : idxP (.tup xs) (.int i) S Q = Q v S := by simp only [idxP, h]
theorem idxP_lst {v : PV} (h : S p = some (.lst xs)) (h' : L2.atI xs i = some v) : idxP (.ref p) (.int i) S Q = Q v S := by simp only [idxP, h, h']
theorem idxP_dK {kvs : List (L2.Key × PV)} {k : L2.Key} {v : PV} (h : S p = some (.dK kvs)) (hk : keyOf y = some k) (h' : valP kvs k = some v) : idxP (.ref p) y S Q = Q v S := by
  simp only [idxP, h, dgetP, hk, Option.map_some, h']
@[simp] theorem slP_tup {lo hi : Option Int} : slP (.tup xs) lo hi S Q = Q (.tup (cutP xs lo hi)) S := rfl
theorem slP_lst {lo hi : Option Int} (h : S p = some (.lst xs)) : slP (.ref p) lo hi S Q = ∀ p, S p = none → Q (.ref p) (updS S p (.lst (cutP xs lo hi))) := by simp only [slP, h]
theorem mth_append (h : S p = some (.lst xs)) : mthP .append (.ref p) [x] S Q = (xs.length < sizeLine ∧ Q .non (updS S p (.lst (xs ++ [x])))) := by simp only [mthP, h]
theorem mth_extend (h : S p = some (.lst xs)) (h' : S q = some (.lst ys)) : mthP .extend (.ref p) [.ref q] S Q = (xs.length + ys.length ≤ sizeLine ∧ Q .non (updS S p (.lst (xs ++ ys)))) := by simp only [mthP, h, h']
theorem mth_pop (h : S p = some (.lst (xs ++ [x]))) : mthP .pop (.ref p) [] S Q = Q x (updS S p (.lst xs)) := by
  simp only [mthP, h, List.length_append, List.length_singleton, Nat.add_sub_cancel, List.getElem?_concat_length, List.dropLast_concat]
@[simp] theorem keyOf_int : keyOf (.int i) = some (Sum.inl i) := rfl
@[simp] theorem keyOf_str : keyOf (.str z) = some (Sum.inr z) := rfl
theorem put_lst {k : Nat} {QS : Sto → Prop} (h : S p = some (.lst xs)) (h' : L2.ixN xs.length i = some k) : putQ (.ref p) (.int i) x S QS = QS (updS S p (.lst (xs.set k x))) := by simp only [putQ, h, h']
theorem put_dK {kvs : List (L2.Key × PV)} {k : L2.Key} {QS : Sto → Prop} (h : S p = some (.dK kvs)) (hk : keyOf y = some k) : putQ (.ref p) y x S QS = (kvs.length < sizeLine ∧ QS (updS S p (.dK (putP kvs k x)))) := by simp only [putQ, h, hk]
@[simp] theorem gP_nm {k : Nv → Sto → Prop} {n : Nat} {ρ : Nv} : gP (.nm n) x ρ S k = k (ρ.set n (some x)) S := rfl
@[simp] theorem gP_tup {k : Nv → Sto → Prop} {is : List Nat} {ρ : Nv} : gP (.tup is) (.tup xs) ρ S k = (xs.length = is.length ∧ k (setAll ρ is xs) S) := rfl
/-! ### data -/
theorem dat_int (n : Nat) : datF (n + 1) S (.int i) = some (.int i) := rfl
theorem dat_bl (n : Nat) : datF (n + 1) S (.bl b) = some (.bool b) := rfl
theorem dat_non (n : Nat) : datF (n + 1) S .non = some .none := rfl
theorem allSome_map {α β : Type} (f : α → Option β) (g : α → β) (l : List α) (h : ∀ a ∈ l, f a = some (g a)) : allSome (l.map f) = some (l.map g) := by
  induction l with
  | nil => rfl
  | cons a l ih =>
    rw [List.map_cons, h a List.mem_cons_self]
    simp only [allSome, ih fun b hb => h b (List.mem_cons_of_mem _ hb)]
    rfl
theorem dat_tup (n : Nat) : datF (n + 1) S (.tup xs) = (allSome (xs.map (datF n S))).map .tuple := rfl
theorem dat_ref (n : Nat) (h : S p = some (.lst xs)) : datF (n + 1) S (.ref p) = (allSome (xs.map (datF n S))).map .list := by simp only [datF, h]
theorem dat_lst (h : S p = some (.lst xs)) : dat S (.ref p) = (allSome (xs.map (datF 6 S))).map .list := dat_ref 6 h
theorem dat_lst0 (h : S p = some (.lst [])) : dat S (.ref p) = some (.list []) := dat_ref 6 h
theorem dat_tupmap {α : Type} (n : Nat) (f : α → PV) (g : α → PyData) (l : List α) (h : ∀ a ∈ l, datF n S (f a) = some (g a)) : datF (n + 1) S (.tup (l.map f)) = some (.tuple (l.map g)) := by
  rw [dat_tup, List.map_map, allSome_map (datF n S ∘ f) g l h]; rfl
theorem dat_refmap {α : Type} (n : Nat) (f : α → PV) (g : α → PyData) (l : List α) (hp : S p = some (.lst (l.map f))) (h : ∀ a ∈ l, datF n S (f a) = some (g a)) : datF (n + 1) S (.ref p) = some (.list (l.map g)) := by
  rw [dat_ref n hp, List.map_map, allSome_map (datF n S ∘ f) g l h]; rfl
theorem dat_ints (n : Nat) (l : List Int) : datF (n + 2) S (.tup (l.map .int)) = some (.tuple (l.map .int)) := dat_tupmap _ _ _ _ fun _ _ => rfl
theorem eqP_at {neg : Bool} {d e : PyData} (h : dat S x = some d) (h' : dat S y = some e) : eqP neg x y S Q = Q (.bl (neg ^^ PyData.eqv d e)) S := by simp only [eqP, h, h']
@[simp] theorem eqP_int {neg : Bool} : eqP neg (.int i) (.int j) S Q = Q (.bl (neg ^^ (i == j))) S := rfl
@[simp] theorem eqP_bl {neg a b : Bool} : eqP neg (.bl a) (.bl b) S Q = Q (.bl (neg ^^ (a == b))) S := rfl
theorem eqvAll_nil (l : List PyData) : PyData.eqvAll l [] = l.isEmpty := by cases l <;> rfl
end
/-! ### comprehensions whose turns leave the store as it is -/
theorem lc_pure {D : Addr} {Gd : Sto → Prop} {body : PV → Sto → (Option PV → Sto → Prop) → Prop} {Q : Sto → Prop} {S : Sto} (f : PV → Option PV) : ∀ (xs acc : List PV), acc.length + xs.length ≤ sizeLine →
    (∀ acc, Gd (updS S D (.lst acc))) → (∀ x ∈ xs, ∀ acc k, (∀ S2, SubS (updS S D (.lst acc)) S2 → k (f x) S2) → body x (updS S D (.lst acc)) k) → Q (updS S D (.lst (acc ++ xs.filterMap f))) → lcP D Gd body Q xs acc (updS S D (.lst acc))
  | [], acc, _, hg, _, hq => ⟨hg _, by simpa using hq⟩
  | x :: xs, acc, hl, hg, hb, hq => by
    refine ⟨hg _, hb x List.mem_cons_self acc _ fun S2 h2 => ⟨_, h2, ?_⟩⟩
    cases e : f x with
    | none =>
      exact lc_pure f xs acc (by simp at hl; omega) hg (fun y hy => hb y (List.mem_cons_of_mem _ hy)) (by rw [List.filterMap_cons, e] at hq; exact hq)
    | some y =>
      refine ⟨updS_same, by simp at hl; omega, ?_⟩
      rw [updS_updS]
      exact lc_pure f xs (acc ++ [y]) (by simp at hl ⊢; omega) hg (fun y hy => hb y (List.mem_cons_of_mem _ hy)) (by rw [List.filterMap_cons, e] at hq; simpa using hq)
/-- .. all items kept -/
theorem lc_map {D : Addr} {Gd : Sto → Prop} {body : PV → Sto → (Option PV → Sto → Prop) → Prop} {Q : Sto → Prop} {S : Sto} (f : PV → PV) (xs : List PV) (hl : xs.length ≤ sizeLine)
    (hg : ∀ acc, Gd (updS S D (.lst acc))) (hb : ∀ x ∈ xs, ∀ acc k, (∀ S2, SubS (updS S D (.lst acc)) S2 → k (some (f x)) S2) → body x (updS S D (.lst acc)) k) (hq : Q (updS S D (.lst (xs.map f)))) : lcP D Gd body Q xs [] (updS S D (.lst [])) :=
  lc_pure (fun x => some (f x)) xs [] (by simpa using hl) hg hb (by simpa using hq)
/-- the same over items that are images -/
theorem lc_map' {α : Type} {D : Addr} {Gd : Sto → Prop} {body : PV → Sto → (Option PV → Sto → Prop) → Prop} {Q : Sto → Prop} {S : Sto} (g : α → PV) (f : α → PV) : ∀ (l : List α) (acc : List PV), acc.length + l.length ≤ sizeLine →
    (∀ acc, Gd (updS S D (.lst acc))) → (∀ a ∈ l, ∀ acc k, (∀ S2, SubS (updS S D (.lst acc)) S2 → k (some (f a)) S2) → body (g a) (updS S D (.lst acc)) k) → Q (updS S D (.lst (acc ++ l.map f))) → lcP D Gd body Q (l.map g) acc (updS S D (.lst acc))
  | [], acc, _, hg, _, hq => ⟨hg _, by simpa using hq⟩
  | x :: xs, acc, hl, hg, hb, hq => by
    refine ⟨hg _, hb x List.mem_cons_self acc _ fun S2 h2 => ⟨_, h2, updS_same, by simp at hl; omega, ?_⟩⟩
    rw [updS_updS]
    exact lc_map' g f xs (acc ++ [f x]) (by simp at hl ⊢; omega) hg (fun y hy => hb y (List.mem_cons_of_mem _ hy)) (by simpa using hq)
/-- .. with a test -/
theorem lc_filter' {α : Type} {D : Addr} {Gd : Sto → Prop} {body : PV → Sto → (Option PV → Sto → Prop) → Prop} {Q : Sto → Prop} {S : Sto} (g : α → PV) (t : α → Bool) (f : α → PV) : ∀ (l : List α) (acc : List PV), acc.length + l.length ≤ sizeLine →
    (∀ acc, Gd (updS S D (.lst acc))) → (∀ a ∈ l, ∀ acc k, (∀ S2, SubS (updS S D (.lst acc)) S2 → k (if t a then some (f a) else none) S2) → body (g a) (updS S D (.lst acc)) k) → Q (updS S D (.lst (acc ++ (l.filter t).map f))) → lcP D Gd body Q (l.map g) acc (updS S D (.lst acc))
  | [], acc, _, hg, _, hq => ⟨hg _, by simpa using hq⟩
  | x :: xs, acc, hl, hg, hb, hq => by
    refine ⟨hg _, hb x List.mem_cons_self acc _ fun S2 h2 => ⟨_, h2, ?_⟩⟩
    cases e : t x with
    | false =>
      simp only [Bool.false_eq_true, if_false]
      exact lc_filter' g t f xs acc (by simp at hl; omega) hg (fun y hy => hb y (List.mem_cons_of_mem _ hy)) (by rw [List.filter_cons, e] at hq; simpa using hq)
    | true =>
      simp only [if_true]
      refine ⟨updS_same, by simp at hl; omega, ?_⟩
      rw [updS_updS]
      exact lc_filter' g t f xs (acc ++ [f x]) (by simp at hl ⊢; omega) hg (fun y hy => hb y (List.mem_cons_of_mem _ hy)) (by rw [List.filter_cons, e] at hq; simpa using hq)
/-- a for loop by an invariant over what is walked -/
theorem fo_by {Gd : Sto → Prop} {body : PV → Nv → Sto → (Nv → Sto → Prop) → Prop} {Q : Nv → Sto → Prop} {α : Type} (g : α → PV) (Iv : List α → Nv → Sto → Prop) (l0 : List α) : ∀ (l pre : List α), pre ++ l = l0 → ∀ (ρ : Nv) (S : Sto), Iv pre ρ S → (∀ pre ρ S, Iv pre ρ S → Gd S) →
    (∀ pre a post ρ S (k : Nv → Sto → Prop), l0 = pre ++ a :: post → Iv pre ρ S → (∀ ρ2 S3, Iv (pre ++ [a]) ρ2 S3 → k ρ2 S3) → body (g a) ρ S fun ρ2 S2 => ∃ S3, SubS S3 S2 ∧ k ρ2 S3) →
    (∀ ρ S, Iv l0 ρ S → Q ρ S) → foP Gd body Q (l.map g) ρ S
  | [], pre, e, ρ, S, h, hg, hs, hd => ⟨hg _ _ _ h, hd _ _ (by rw [← e]; simpa using h)⟩
  | a :: l, pre, e, ρ, S, h, hg, hs, hd =>
    ⟨hg _ _ _ h, hs pre a l ρ S _ e.symm h fun ρ2 S3 k => fo_by g Iv l0 l (pre ++ [a]) (by simpa using e) ρ2 S3 k hg hs hd⟩
/-- a while by a word and a measure -/
theorem wh_by {test : Nv → Sto → (Bool → Sto → Prop) → Prop} {body : Nv → Sto → (Nv → Sto → Prop) → Prop} {Q : Nv → Sto → Prop} (J : Nat → Nv → Sto → Prop)
    (hs : ∀ m ρ S (k : Nv → Sto → Prop), J m ρ S → (∀ m' ρ2 S3, m' < m → J m' ρ2 S3 → k ρ2 S3) → test ρ S fun b S1 => if b = true then body ρ S1 fun ρ2 S2 => ∃ S3, SubS S3 S2 ∧ k ρ2 S3 else Q ρ S1) :
    ∀ (n m : Nat) (ρ : Nv) (S : Sto), m < n → J m ρ S → whP test body Q n ρ S
  | 0, _, _, _, h, _ => by omega
  | n + 1, m, ρ, S, h, j => hs m ρ S _ j fun m' ρ2 S3 hm j' => wh_by J hs n m' ρ2 S3 (by omega) j'
/-- a comprehension by an invariant -/
theorem lc_by {D : Addr} {Gd : Sto → Prop} {body : PV → Sto → (Option PV → Sto → Prop) → Prop} {Q : Sto → Prop} {α : Type} (g : α → PV) (Iv : List α → List PV → Sto → Prop) (l0 : List α) : ∀ (l pre : List α), pre ++ l = l0 → ∀ (acc : List PV) (S : Sto), Iv pre acc S → (∀ pre acc S, Iv pre acc S → Gd S) →
    (∀ pre a post acc S (k : Option PV → Sto → Prop), l0 = pre ++ a :: post → Iv pre acc S → (∀ S3, Iv (pre ++ [a]) acc S3 → k none S3) → (∀ y S3, S3 D = some (.lst acc) → acc.length < sizeLine → Iv (pre ++ [a]) (acc ++ [y]) (updS S3 D (.lst (acc ++ [y]))) → k (some y) S3) →
      body (g a) S fun r S2 => ∃ S3, SubS S3 S2 ∧ k r S3) →
    (∀ acc S, Iv l0 acc S → Q S) → lcP D Gd body Q (l.map g) acc S
  | [], pre, e, acc, S, h, hg, hs, hd => ⟨hg _ _ _ h, hd _ _ (by rw [← e]; simpa using h)⟩
  | a :: l, pre, e, acc, S, h, hg, hs, hd => by
    refine ⟨hg _ _ _ h, hs pre a l acc S (fun r S3 => match r with
      | none => lcP D Gd body Q (l.map g) acc S3
      | some y => S3 D = some (.lst acc) ∧ acc.length < sizeLine ∧ lcP D Gd body Q (l.map g) (acc ++ [y]) (updS S3 D (.lst (acc ++ [y])))) e.symm h (fun S3 k => ?_) fun y S3 h1 h2 k => ⟨h1, h2, ?_⟩⟩
    · exact lc_by g Iv l0 l (pre ++ [a]) (by simpa using e) acc S3 k hg hs hd
    · exact lc_by g Iv l0 l (pre ++ [a]) (by simpa using e) (acc ++ [y]) _ k hg hs hd
theorem updS_comm {S : Sto} {p q : Addr} {o u : PO} (h : p ≠ q) : updS (updS S p o) q u = updS (updS S q u) p o := by
  funext b
  unfold updS
  by_cases h1 : b = q
  · have h2 : b ≠ p := fun z => h (z.symm.trans h1)
    rw [if_pos h1, if_neg h2, if_pos h1]
  · rw [if_neg h1]
    by_cases h2 : b = p
    · rw [if_pos h2, if_pos h2]
    · rw [if_neg h2, if_neg h2, if_neg h1]
theorem zipL_map {α β : Type} (f : α → PV) (g : β → PV) (l : List α) (m : List β) : zipL (l.map f) (m.map g) = (l.zip m).map fun p => .tup [f p.1, g p.2] := by
  unfold zipL
  rw [List.zip_map, List.map_map]; rfl
theorem seqG_upd {S : Sto} {p q : Addr} {o : PO} (h : p ≠ q) : seqG (.ref p) S (updS S q o) := updS_ne h
theorem any_int (c : List Int) (n : Int) : (c.map PyData.int).any (fun z => PyData.eqv z (.int n)) = c.contains n := by
  induction c with
  | nil => rfl
  | cons a c ih =>
    rw [List.map_cons, List.any_cons, ih, List.contains_cons]
    congr 1
    show (a == n) = (n == a)
    rw [Bool.eq_iff_iff, beq_iff_eq, beq_iff_eq]
    exact eq_comm
theorem inP_ints {S : Sto} {Q : PK1} {neg : Bool} {c : List Int} {n : Int} : inP neg (.int n) (.tup (c.map .int)) S Q = Q (.bl (neg ^^ c.contains n)) S := by
  have h1 : dat S (.tup (c.map .int)) = some (.tuple (c.map .int)) := dat_ints 5 c
  have h2 : dat S (.int n) = some (.int n) := rfl
  simp only [inP, h1, h2, any_int]
theorem SubS.upd0 {S S1 : Sto} {p : Addr} {o : PO} (a : SubS S S1) (h : S p = Option.none) : SubS S (updS S1 p o) := fun c u q => by
  rw [updS_ne (fun e => by rw [e, h] at q; cases q)]; exact a c u q
/-! ### cuts -/
theorem cut_from (xs : List PV) (k : Nat) : cutP xs (some (k : Int)) none = xs.drop k := by
  unfold cutP
  rw [HT.sIx_nat]
  show (xs.drop (min k xs.length)).take (xs.length - min k xs.length) = _
  by_cases h : k ≤ xs.length
  · rw [Nat.min_eq_left h, List.take_of_length_le (by simp)]
  · rw [Nat.min_eq_right (by omega), List.drop_length, List.take_nil, List.drop_eq_nil_of_le (by omega)]
theorem cut_to (xs : List PV) (k : Nat) : cutP xs none (some (k : Int)) = xs.take k := by
  unfold cutP
  rw [HT.sIx_nat]
  show (xs.drop 0).take (min k xs.length - 0) = _
  rw [List.drop_zero, Nat.sub_zero]
  by_cases h : k ≤ xs.length
  · rw [Nat.min_eq_left h]
  · rw [Nat.min_eq_right (by omega), List.take_of_length_le (Nat.le_refl _), List.take_of_length_le (by omega)]
theorem cut_ft (xs : List PV) (i j : Nat) : cutP xs (some (i : Int)) (some (j : Int)) = (xs.drop i).take (j - i) := by
  unfold cutP
  rw [HT.sIx_nat, HT.sIx_nat]
  by_cases h : i ≤ xs.length
  · rw [Nat.min_eq_left h]
    by_cases h2 : j ≤ xs.length
    · rw [Nat.min_eq_left h2]
    · rw [Nat.min_eq_right (show xs.length ≤ j by omega), List.take_of_length_le (by simp), List.take_of_length_le (by simp; omega)]
  · rw [Nat.min_eq_right (show xs.length ≤ i by omega), List.drop_length, List.take_nil, List.drop_eq_nil_of_le (by omega), List.take_nil]
theorem cut_from1 (xs : List PV) : cutP xs (some 1) none = xs.drop 1 := cut_from xs 1
/-! ### places -/
theorem atI_of {α : Type} (xs : List α) (j : Nat) : L2.atI xs (j : Int) = xs[j]? := by
  cases h : xs[j]? with
  | some v => exact L2.atI_nat h
  | none =>
    have := List.getElem?_eq_none_iff.mp h
    unfold L2.atI L2.ixN
    rw [if_pos (by omega), if_neg (by omega)]; rfl
@[simp] theorem atI_0 {α : Type} (xs : List α) : L2.atI xs 0 = xs[0]? := atI_of xs 0
@[simp] theorem atI_1 {α : Type} (xs : List α) : L2.atI xs 1 = xs[1]? := atI_of xs 1
@[simp] theorem atI_2 {α : Type} (xs : List α) : L2.atI xs 2 = xs[2]? := atI_of xs 2
@[simp] theorem atI_3 {α : Type} (xs : List α) : L2.atI xs 3 = xs[3]? := atI_of xs 3
@[simp] theorem atI_4 {α : Type} (xs : List α) : L2.atI xs 4 = xs[4]? := atI_of xs 4
@[simp] theorem atI_5 {α : Type} (xs : List α) : L2.atI xs 5 = xs[5]? := atI_of xs 5
@[simp] theorem atI_6 {α : Type} (xs : List α) : L2.atI xs 6 = xs[6]? := atI_of xs 6
@[simp] theorem atI_7 {α : Type} (xs : List α) : L2.atI xs 7 = xs[7]? := atI_of xs 7
theorem atI_toNat {α : Type} {xs : List α} {i : Int} (h : 0 ≤ i) : L2.atI xs i = xs[i.toNat]? := by
  have := atI_of xs i.toNat
  rwa [Int.toNat_of_nonneg h] at this
theorem atI_m1 {α : Type} (xs : List α) : L2.atI xs (-1) = xs.getLast? := by
  rcases List.eq_nil_or_concat xs with rfl | ⟨ys, y, rfl⟩
  · rfl
  · rw [List.concat_eq_append, L2.atI_last]; simp
theorem ixN_of {n : Nat} {i : Int} (h : 0 ≤ i) (h2 : i < n) : L2.ixN n i = some i.toNat := by
  unfold L2.ixN; rw [if_pos h, if_pos h2]
@[simp] theorem sizeLine_val : sizeLine = 16777216 := by decide
end PL

namespace C00
open PySem PL
def a_is_integer : List Sm := [.ret (.bop .And (.cons (.isi (.var 0) .int) (.cons (.not (.isi (.var 0) .bool)) .nil)))]
abbrev N_is_integer : List Str := ["value"]
def a_is_whole : List Sm := [.ret (.bop .And (.cons (.call 0 (.cons (.var 0) .nil)) (.cons (.chn .LtE .LtE (.var 1) (.var 0) (.var 2)) .nil)))]
abbrev N_is_whole : List Str := ["value", "low", "high"]
def a_is_tuple_of : List Sm := [.ret (.bop .And (.cons (.isi (.var 0) .tuple) (.cons (.chn .LtE .LtE (.var 1) (.blt .len (.cons (.var 0) .nil)) (.var 2)) .nil)))]
abbrev N_is_tuple_of : List Str := ["value", "low", "high"]
def a_is_one_of : List Sm := [.ret (.bop .And (.cons (.isi (.var 0) .str) (.cons (.cmp .In (.var 0) (.var 1)) .nil)))]
abbrev N_is_one_of : List Str := ["value", "names"]
def a_fits_width : List Sm := [.ret (.call 0 (.cons (.var 0) (.cons (.lit (.int 1)) (.cons (.con 0) .nil))))]
abbrev N_fits_width : List Str := ["value"]
def a_need_width : List Sm := [.ite (.not (.call 0 (.cons (.var 0) .nil)))
    [.never]
    []]
abbrev N_need_width : List Str := ["value"]
def a_fits_word : List Sm := [.ret (.call 0 (.cons (.var 1) (.cons (.lit (.int 0)) (.cons (.bin .Sub (.bin .LShift (.lit (.int 1)) (.var 0)) (.lit (.int 1))) .nil))))]
abbrev N_fits_word : List Str := ["width", "value"]
def a_are_words : List Sm := [.ret (.bop .And (.cons (.call 1 (.cons (.var 1) (.cons (.var 2) (.cons (.var 2) .nil)))) (.cons (.blt .all (.cons (.lcF [3] (.nm 3) (.seq (.var 1)) .nil (.call 0 (.cons (.var 0) (.cons (.var 3) .nil)))) .nil)) .nil)))]
abbrev N_are_words : List Str := ["width", "value", "many", "word"]
def a_is_register : List Sm := [.ret (.call 0 (.cons (.var 0) (.cons (.lit (.int 0)) (.cons (.bin .Sub (.con 0) (.lit (.int 1))) .nil))))]
abbrev N_is_register : List Str := ["value"]
def a_are_registers : List Sm := [.ret (.blt .all (.cons (.lcF [1] (.nm 1) (.seq (.var 0)) .nil (.call 0 (.cons (.var 1) .nil))) .nil))]
abbrev N_are_registers : List Str := ["values", "value"]
def a_fits_order : List Sm := [.ite (.bop .Or (.cons (.not (.call 0 (.cons (.var 1) (.cons (.lit (.int 1)) (.cons (.lit (.int 5)) .nil))))) (.cons (.not (.isi (.idx (.var 1) (.lit (.int 0))) .str)) (.cons (.cmp .NotIn (.tup (.cons (.idx (.var 1) (.lit (.int 0))) (.cons (.blt .len (.cons (.var 1) .nil)) .nil))) (.con 0)) .nil))))
    [.ret (.lit (.bl false))]
    [],
    .set 2 (.idx (.var 1) (.lit (.int 0))),
    .ite (.cmp .Eq (.var 2) (.con 1))
    [.ret (.bop .And (.cons (.call 2 (.cons (.idx (.var 1) (.lit (.int 1))) .nil)) (.cons (.call 1 (.cons (.idx (.var 1) (.lit (.int 2))) (.cons (.lit (.int 0)) (.cons (.con 2) .nil)))) .nil)))]
    [],
    .ite (.cmp .Eq (.var 2) (.con 3))
    [.ret (.bop .And (.cons (.call 4 (.cons (.idx (.var 1) (.lit (.int 1))) (.cons (.con 4) .nil))) (.cons (.call 3 (.cons (.sl (.var 1) (.cons (.lit (.int 2)) .nil) .nil) .nil)) .nil)))]
    [],
    .ite (.cmp .Eq (.var 2) (.con 5))
    [.ret (.bop .And (.cons (.call 4 (.cons (.idx (.var 1) (.lit (.int 1))) (.cons (.con 6) .nil))) (.cons (.call 3 (.cons (.sl (.var 1) (.cons (.lit (.int 2)) .nil) (.cons (.lit (.int 4)) .nil)) .nil)) (.cons (.call 1 (.cons (.idx (.var 1) (.lit (.int 4))) (.cons (.lit (.int 0)) (.cons (.bin .Sub (.var 0) (.lit (.int 1))) .nil)))) .nil))))]
    [],
    .ite (.cmp .Eq (.var 2) (.con 7))
    [.ret (.call 1 (.cons (.idx (.var 1) (.lit (.int 1))) (.cons (.lit (.int 0)) (.cons (.bin .Sub (.var 0) (.lit (.int 1))) .nil))))]
    [],
    .ret (.ite (.cmp .Eq (.var 2) (.con 8)) (.call 1 (.cons (.idx (.var 1) (.lit (.int 1))) (.cons (.lit (.int 0)) (.cons (.con 9) .nil)))) (.call 3 (.cons (.sl (.var 1) (.cons (.lit (.int 1)) .nil) .nil) .nil)))]
abbrev N_fits_order : List Str := ["many", "value", "kind"]
def a_fits_program : List Sm := [.ite (.bop .Or (.cons (.not (.call 1 (.cons (.var 0) (.cons (.lit (.int 1)) (.cons (.con 0) .nil))))) (.cons (.not (.blt .all (.cons (.lcF [1] (.nm 1) (.seq (.var 0)) .nil (.call 0 (.cons (.blt .len (.cons (.var 0) .nil)) (.cons (.var 1) .nil)))) .nil))) .nil)))
    [.ret (.lit (.bl false))]
    [],
    .ret (.cmp .In (.idx (.idx (.var 0) (.neg (.lit (.int 1)))) (.lit (.int 0))) (.tup (.cons (.con 3) (.cons (.con 2) (.cons (.con 1) .nil)))))]
abbrev N_fits_program : List Str := ["value", "order"]
def a_fits_inputs : List Sm := [.ret (.bop .And (.cons (.call 1 (.cons (.var 1) (.cons (.lit (.int 2)) (.cons (.lit (.int 2)) .nil)))) (.cons (.call 0 (.cons (.var 0) (.cons (.idx (.var 1) (.lit (.int 0))) (.cons (.con 1) .nil)))) (.cons (.call 0 (.cons (.var 0) (.cons (.idx (.var 1) (.lit (.int 1))) (.cons (.con 0) .nil)))) .nil))))]
abbrev N_fits_inputs : List Str := ["width", "value"]
def a_fits_state : List Sm := [.ret (.bop .And (.cons (.call 2 (.cons (.var 1) (.cons (.lit (.int 3)) (.cons (.lit (.int 3)) .nil)))) (.cons (.call 1 (.cons (.idx (.var 1) (.lit (.int 0))) (.cons (.lit (.int 0)) (.cons (.bin .Sub (.con 0) (.lit (.int 1))) .nil)))) (.cons (.call 0 (.cons (.var 0) (.cons (.sl (.var 1) (.cons (.lit (.int 1)) .nil) .nil) .nil))) .nil))))]
abbrev N_fits_state : List Str := ["width", "value"]
def a_are_entries : List Sm := [.ret (.bop .And (.cons (.call 1 (.cons (.var 1) (.cons (.var 2) (.cons (.var 2) .nil)))) (.cons (.blt .all (.cons (.lcF [3] (.nm 3) (.seq (.var 1)) .nil (.bop .Or (.cons (.cmp .Is (.var 3) (.lit .non)) (.cons (.call 0 (.cons (.var 0) (.cons (.var 3) .nil))) .nil)))) .nil)) .nil)))]
abbrev N_are_entries : List Str := ["width", "value", "many", "entry"]
def a_fits_told : List Sm := [.ite (.not (.call 0 (.cons (.var 1) (.cons (.lit (.int 2)) (.cons (.lit (.int 2)) .nil)))))
    [.ret (.lit (.bl false))]
    [],
    .ret (.bop .And (.cons (.call 1 (.cons (.var 0) (.cons (.idx (.var 1) (.lit (.int 0))) (.cons (.con 1) .nil)))) (.cons (.call 1 (.cons (.var 0) (.cons (.idx (.var 1) (.lit (.int 1))) (.cons (.con 0) .nil)))) .nil)))]
abbrev N_fits_told : List Str := ["width", "value"]
def a_is_program : List Sm := [.ret (.call 0 (.cons (.var 0) .nil))]
abbrev N_is_program : List Str := ["value"]
def a_are_inputs : List Sm := [.exp (.call 0 (.cons (.var 0) .nil)),
    .ret (.call 1 (.cons (.var 0) (.cons (.var 1) .nil)))]
abbrev N_are_inputs : List Str := ["width", "value"]
def a_is_state : List Sm := [.exp (.call 0 (.cons (.var 0) .nil)),
    .ret (.call 1 (.cons (.var 0) (.cons (.var 1) .nil)))]
abbrev N_is_state : List Str := ["width", "value"]
def a_are_told_inputs : List Sm := [.exp (.call 0 (.cons (.var 0) .nil)),
    .ret (.call 1 (.cons (.var 0) (.cons (.var 1) .nil)))]
abbrev N_are_told_inputs : List Str := ["width", "value"]
def a_law_cup : List Sm := [.set 1 (.blt .abs (.cons (.idx (.bin .Add (.bltF .list (.cons (.var 0) .nil)) (.lstF (.cons (.lit (.int 0)) .nil))) (.lit (.int 0))) .nil)),
    .ret (.lst (.cons (.ite (.cmp .GtE (.var 1) (.bin .Pow (.lit (.int 10)) (.lit (.int 18)))) (.bin .FloorDiv (.var 1) (.lit (.int 47))) (.lit (.int 0))) (.cons (.bin .Add (.bin .Mod (.blt .int (.cons (.bin .Add (.bin .Mult (.var 1) (.lit (.int 283))) (.lit (.int 3907))) .nil)) (.lit (.int 2077503259))) (.lit (.int 197))) .nil)))]
abbrev N_law_cup : List Str := ["script", "cell"]
def a_law_roll : List Sm := [.ite (.cmp .Gt (.idx (.var 0) (.lit (.int 0))) (.lit (.int 0)))
    [.set 2 (.bin .Mod (.blt .int (.cons (.idx (.var 0) (.lit (.int 0))) .nil)) (.var 1)),
    .put (.var 0) (.lit (.int 0)) (.bin .FloorDiv (.idx (.var 0) (.lit (.int 0))) (.var 1)),
    .ret (.var 2)]
    [],
    .put (.var 0) (.lit (.int 1)) (.bin .Mod (.blt .int (.cons (.bin .Add (.bin .Mult (.idx (.var 0) (.lit (.int 1))) (.lit (.int 31051))) (.lit (.int 8053))) .nil)) (.lit (.int 2147483549))),
    .set 3 (.bin .Mod (.blt .int (.cons (.bin .Mult (.idx (.var 0) (.lit (.int 1))) (.bin .Add (.idx (.var 0) (.lit (.int 1))) (.lit (.int 251)))) .nil)) (.lit (.int 2147483587))),
    .ret (.bin .Mod (.blt .int (.cons (.bin .FloorDiv (.var 3) (.lit (.int 839))) .nil)) (.var 1))]
abbrev N_law_roll : List Str := ["cup", "many", "found", "deep"]
def a_law_some : List Sm := [.ret (.idx (.var 1) (.call 0 (.cons (.var 0) (.cons (.blt .len (.cons (.var 1) .nil)) .nil))))]
abbrev N_law_some : List Str := ["cup", "things"]
def a_law_sort : List Sm := [.ite (.bop .Or (.cons (.cmp .Is (.var 0) (.lit .non)) (.cons (.isi (.var 0) .bool) .nil)))
    [.ret (.ite (.cmp .Is (.var 0) (.lit .non)) (.lit (.int 0)) (.lit (.int 1)))]
    [],
    .ite (.bop .Or (.cons (.isi (.var 0) .int) (.cons (.isi (.var 0) .str) .nil)))
    [.ret (.ite (.isi (.var 0) .int) (.lit (.int 2)) (.lit (.int 3)))]
    [],
    .ret (.ite (.isi (.var 0) .tuple) (.lit (.int 4)) (.ite (.isi (.var 0) .list) (.lit (.int 5)) (.lit (.int 6))))]
abbrev N_law_sort : List Str := ["value"]
def a_law_like : List Sm := [.set 2 (.call 0 (.cons (.var 1) .nil)),
    .ite (.bop .Or (.cons (.cmp .NotEq (.call 0 (.cons (.var 0) .nil)) (.var 2)) (.cons (.cmp .Eq (.var 2) (.lit (.int 6))) .nil)))
    [.ret (.lit (.bl false))]
    [],
    .ite (.cmp .In (.var 2) (.tup (.cons (.lit (.int 4)) (.cons (.lit (.int 5)) .nil))))
    [.ret (.bop .And (.cons (.cmp .Eq (.blt .len (.cons (.var 0) .nil)) (.blt .len (.cons (.var 1) .nil))) (.cons (.cmp .Eq (.lcF [3, 4] (.tup [3, 4]) (.zip (.var 0) (.var 1)) (.cons (.not (.call 1 (.cons (.var 3) (.cons (.var 4) .nil)))) .nil) (.lit (.int 1))) (.lstF .nil)) .nil)))]
    [],
    .ret (.cmp .Eq (.var 0) (.var 1))]
abbrev N_law_like : List Str := ["one", "other", "sort", "first", "second"]
def a_law_whole : List Sm := [.ret (.idx (.lstF (.cons (.lit (.int 1)) (.cons (.lit (.int 2)) (.cons (.lit (.int 4)) (.cons (.lit (.int 8)) (.cons (.lit (.int 16)) (.cons (.lit (.int 32)) (.cons (.lit (.int 64)) (.cons (.lit (.int 128)) (.cons (.lit (.int 256)) .nil)))))))))) (.var 0))]
abbrev N_law_whole : List Str := ["width"]
def a_law_number : List Sm := [.ret (.call 0 (.cons (.var 0) (.cons (.lstF (.cons (.lit (.int 0)) (.cons (.lit (.int 1)) (.cons (.lit (.int 1)) (.cons (.lit (.int 2)) (.cons (.lit (.int 3)) (.cons (.lit (.int 5)) (.cons (.lit (.int 6)) (.cons (.lit (.int 7)) (.cons (.lit (.int 8)) (.cons (.lit (.int 11)) (.cons (.lit (.int 15)) (.cons (.lit (.int 16)) (.cons (.lit (.int 31)) (.cons (.lit (.int 127)) (.cons (.lit (.int 128)) (.cons (.lit (.int 255)) .nil))))))))))))))))) .nil)))]
abbrev N_law_number : List Str := ["cup"]
def a_law_pieces : List Sm := [.tup [2, 3, 4, 5] (.tup (.cons (.call 0 (.cons (.var 0) (.cons (.lit (.int 4)) .nil))) (.cons (.call 0 (.cons (.var 0) (.cons (.lit (.int 4)) .nil))) (.cons (.call 0 (.cons (.var 0) (.cons (.lit (.int 4)) .nil))) (.cons (.call 0 (.cons (.var 0) (.cons (.lit (.int 6)) .nil))) .nil))))),
    .ite (.cmp .Eq (.var 5) (.lit (.int 0)))
    [.ret (.lstF (.cons (.tup (.cons (.lit (.str "put")) (.cons (.var 3) (.cons (.call 1 (.cons (.var 0) (.cons (.lstF (.cons (.lit (.int 0)) (.cons (.lit (.int 3)) (.cons (.lit (.int 4)) (.cons (.lit (.int 5)) (.cons (.lit (.int 6)) (.cons (.lit (.int 7)) (.cons (.lit (.int 13)) (.cons (.lit (.int 15)) .nil))))))))) .nil))) .nil)))) (.cons (.tup (.cons (.lit (.str "store")) (.cons (.var 2) (.cons (.var 3) .nil)))) (.cons (.tup (.cons (.lit (.str "load")) (.cons (.var 4) (.cons (.var 3) .nil)))) .nil))))]
    [],
    .ite (.cmp .Eq (.var 5) (.lit (.int 1)))
    [.ret (.lstF (.cons (.tup (.cons (.lit (.str "put")) (.cons (.var 3) (.cons (.bin .Add (.lit (.int 5)) (.call 0 (.cons (.var 0) (.cons (.lit (.int 3)) .nil)))) .nil)))) (.cons (.tup (.cons (.lit (.str "store")) (.cons (.var 2) (.cons (.var 3) .nil)))) (.cons (.tup (.cons (.lit (.str "do")) (.cons (.lit (.str "add")) (.cons (.var 3) (.cons (.call 0 (.cons (.var 0) (.cons (.lit (.int 4)) .nil))) .nil))))) (.cons (.tup (.cons (.lit (.str "store")) (.cons (.var 4) (.cons (.var 3) .nil)))) .nil)))))]
    [],
    .ite (.cmp .Eq (.var 5) (.lit (.int 2)))
    [.ite (.cmp .Lt (.blt .len (.cons (.sset (.lstF (.cons (.var 2) (.cons (.var 3) (.cons (.var 4) .nil))))) .nil)) (.lit (.int 3)))
    [.tup [2, 3, 4] (.call 1 (.cons (.var 0) (.cons (.lstF (.cons (.tup (.cons (.lit (.int 0)) (.cons (.lit (.int 1)) (.cons (.lit (.int 3)) .nil)))) (.cons (.tup (.cons (.lit (.int 3)) (.cons (.lit (.int 2)) (.cons (.lit (.int 0)) .nil)))) (.cons (.tup (.cons (.lit (.int 2)) (.cons (.lit (.int 3)) (.cons (.lit (.int 1)) .nil)))) (.cons (.tup (.cons (.lit (.int 1)) (.cons (.lit (.int 0)) (.cons (.lit (.int 2)) .nil)))) (.cons (.tup (.cons (.lit (.int 3)) (.cons (.lit (.int 0)) (.cons (.lit (.int 1)) .nil)))) (.cons (.tup (.cons (.lit (.int 0)) (.cons (.lit (.int 3)) (.cons (.lit (.int 2)) .nil)))) .nil))))))) .nil)))]
    [],
    .set 6 (.call 1 (.cons (.var 0) (.cons (.lstF (.cons (.tup (.cons (.lit (.str "do")) (.cons (.lit (.str "add")) (.cons (.var 4) (.cons (.var 2) .nil))))) (.cons (.tup (.cons (.lit (.str "do")) (.cons (.lit (.str "xor")) (.cons (.var 4) (.cons (.var 3) .nil))))) (.cons (.tup (.cons (.lit (.str "store")) (.cons (.var 4) (.cons (.var 2) .nil)))) (.cons (.tup (.cons (.lit (.str "copy")) (.cons (.var 4) (.cons (.var 2) .nil)))) (.cons (.tup (.cons (.lit (.str "load")) (.cons (.var 4) (.cons (.var 2) .nil)))) .nil)))))) .nil))),
    .ret (.lstF (.cons (.tup (.cons (.lit (.str "put")) (.cons (.var 3) (.cons (.lit (.int 1)) .nil)))) (.cons (.tup (.cons (.lit (.str "if")) (.cons (.lit (.str "less")) (.cons (.var 2) (.cons (.var 3) (.cons (.bin .Add (.var 1) (.lit (.int 5))) .nil)))))) (.cons (.var 6) (.cons (.tup (.cons (.lit (.str "do")) (.cons (.lit (.str "sub")) (.cons (.var 2) (.cons (.var 3) .nil))))) (.cons (.tup (.cons (.lit (.str "go")) (.cons (.bin .Add (.var 1) (.lit (.int 1))) .nil))) .nil))))))]
    [],
    .ite (.cmp .Eq (.var 5) (.lit (.int 3)))
    [.set 7 (.tup (.cons (.lit (.str "do")) (.cons (.call 1 (.cons (.var 0) (.cons (.lstF (.cons (.lit (.str "add")) (.cons (.lit (.str "mul")) (.cons (.lit (.str "xor")) (.cons (.lit (.str "left")) (.cons (.lit (.str "right")) (.cons (.lit (.str "sub")) .nil))))))) .nil))) (.cons (.var 2) (.cons (.var 3) .nil))))),
    .ret (.lstF (.cons (.var 7) (.cons (.var 7) .nil)))]
    [],
    .ite (.cmp .Eq (.var 5) (.lit (.int 4)))
    [.ret (.lstF (.cons (.tup (.cons (.lit (.str "if")) (.cons (.lit (.str "same")) (.cons (.var 2) (.cons (.var 3) (.cons (.bin .Add (.var 1) (.lit (.int 3))) .nil)))))) (.cons (.tup (.cons (.lit (.str "if")) (.cons (.lit (.str "less")) (.cons (.var 3) (.cons (.var 4) (.cons (.bin .Add (.var 1) (.lit (.int 3))) .nil)))))) (.cons (.tup (.cons (.lit (.str "put")) (.cons (.var 4) (.cons (.call 2 (.cons (.var 0) .nil)) .nil)))) .nil))))]
    [],
    .ret (.lstF (.cons (.tup (.cons (.lit (.str "copy")) (.cons (.var 2) (.cons (.var 3) .nil)))) (.cons (.tup (.cons (.lit (.str "copy")) (.cons (.var 4) (.cons (.var 2) .nil)))) .nil)))]
abbrev N_law_pieces : List Str := ["cup", "place", "r", "s", "t", "way", "body", "one"]
def a_law_order : List Sm := [.par3 3 4 5 (.call 0 (.cons (.var 0) (.cons (.lit (.int 14)) .nil))) (.call 0 (.cons (.var 0) (.cons (.lit (.int 4)) .nil))) (.call 0 (.cons (.var 0) (.cons (.lit (.int 4)) .nil))),
    .set 6 (.ite (.cmp .Eq (.call 0 (.cons (.var 0) (.cons (.lit (.int 5)) .nil))) (.lit (.int 0))) (.call 0 (.cons (.var 0) (.cons (.var 2) .nil))) (.blt .min2 (.cons (.bin .Sub (.var 2) (.lit (.int 1))) (.cons (.bin .Add (.bin .Add (.var 1) (.lit (.int 1))) (.call 0 (.cons (.var 0) (.cons (.lit (.int 5)) .nil)))) .nil)))),
    .ite (.cmp .Lt (.var 3) (.lit (.int 2)))
    [.ret (.tup (.cons (.lit (.str "put")) (.cons (.var 4) (.cons (.call 1 (.cons (.var 0) .nil)) .nil))))]
    [],
    .ite (.cmp .Lt (.var 3) (.lit (.int 6)))
    [.ret (.tup (.cons (.lit (.str "do")) (.cons (.call 2 (.cons (.var 0) (.cons (.lstF (.cons (.lit (.str "add")) (.cons (.lit (.str "sub")) (.cons (.lit (.str "mul")) (.cons (.lit (.str "and")) (.cons (.lit (.str "or")) (.cons (.lit (.str "xor")) (.cons (.lit (.str "left")) (.cons (.lit (.str "right")) (.cons (.lit (.str "add")) (.cons (.lit (.str "sub")) .nil))))))))))) .nil))) (.cons (.var 4) (.cons (.var 5) .nil)))))]
    [],
    .ite (.cmp .Lt (.var 3) (.lit (.int 9)))
    [.ret (.tup (.cons (.lit (.str "if")) (.cons (.call 2 (.cons (.var 0) (.cons (.lstF (.cons (.lit (.str "same")) (.cons (.lit (.str "less")) (.cons (.lit (.str "less")) .nil)))) .nil))) (.cons (.var 4) (.cons (.var 5) (.cons (.var 6) .nil))))))]
    [],
    .ite (.cmp .Lt (.var 3) (.lit (.int 12)))
    [.ret (.call 2 (.cons (.var 0) (.cons (.lstF (.cons (.tup (.cons (.lit (.str "copy")) (.cons (.var 4) (.cons (.var 5) .nil)))) (.cons (.tup (.cons (.lit (.str "load")) (.cons (.var 4) (.cons (.var 5) .nil)))) (.cons (.tup (.cons (.lit (.str "store")) (.cons (.var 4) (.cons (.var 5) .nil)))) .nil)))) .nil)))]
    [],
    .ret (.call 2 (.cons (.var 0) (.cons (.lstF (.cons (.tup (.cons (.lit (.str "go")) (.cons (.var 6) .nil))) (.cons (.tup (.cons (.lit (.str "fault")) (.cons (.call 0 (.cons (.var 0) (.cons (.lit (.int 10)) .nil))) .nil))) (.cons (.tup (.cons (.lit (.str "put")) (.cons (.var 4) (.cons (.lit (.int 1)) .nil)))) (.cons (.tup (.cons (.lit (.str "do")) (.cons (.lit (.str "sub")) (.cons (.var 4) (.cons (.var 5) .nil))))) .nil))))) .nil)))]
abbrev N_law_order : List Str := ["cup", "place", "many", "way", "r", "s", "far"]
def a_law_program : List Sm := [.par 2 3 (.bin .Add (.lit (.int 1)) (.call 0 (.cons (.var 0) (.cons (.var 1) .nil)))) (.lstF .nil),
    .wh (.cmp .Lt (.blt .len (.cons (.var 3) .nil)) (.bin .Sub (.var 2) (.lit (.int 1))))
    [.set 4 (.ite (.cmp .Eq (.call 0 (.cons (.var 0) (.cons (.lit (.int 3)) .nil))) (.lit (.int 0))) (.call 1 (.cons (.var 0) (.cons (.blt .len (.cons (.var 3) .nil)) .nil))) (.lstF .nil)),
    .ite (.bop .Or (.cons (.cmp .Eq (.var 4) (.lstF .nil)) (.cons (.cmp .Gt (.bin .Add (.blt .len (.cons (.var 3) .nil)) (.blt .len (.cons (.var 4) .nil))) (.bin .Sub (.var 2) (.lit (.int 1)))) .nil)))
    [.set 4 (.lstF (.cons (.call 2 (.cons (.var 0) (.cons (.blt .len (.cons (.var 3) .nil)) (.cons (.var 2) .nil)))) .nil))]
    [],
    .set 3 (.bin .Add (.var 3) (.var 4))],
    .ret (.blt .tuple (.cons (.bin .Add (.var 3) (.lstF (.cons (.call 3 (.cons (.var 0) (.cons (.lstF (.cons (.tup (.cons (.lit (.str "end")) .nil)) (.cons (.tup (.cons (.lit (.str "end")) .nil)) (.cons (.tup (.cons (.lit (.str "fault")) (.cons (.call 0 (.cons (.var 0) (.cons (.lit (.int 10)) .nil))) .nil))) .nil)))) .nil))) .nil))) .nil))]
abbrev N_law_program : List Str := ["cup", "most", "many", "found", "piece"]
def a_law_is_order : List Sm := [.set 2 (.idx (.var 1) (.lit (.int 0))),
    .set 3 (.dget (.disp (.cons (.lit (.str "put")) (.cons (.sl (.var 1) (.cons (.lit (.int 1)) .nil) (.cons (.lit (.int 2)) .nil)) (.cons (.lit (.str "copy")) (.cons (.sl (.var 1) (.cons (.lit (.int 1)) .nil) (.cons (.lit (.int 3)) .nil)) (.cons (.lit (.str "load")) (.cons (.sl (.var 1) (.cons (.lit (.int 1)) .nil) (.cons (.lit (.int 3)) .nil)) (.cons (.lit (.str "store")) (.cons (.sl (.var 1) (.cons (.lit (.int 1)) .nil) (.cons (.lit (.int 3)) .nil)) (.cons (.lit (.str "do")) (.cons (.sl (.var 1) (.cons (.lit (.int 2)) .nil) (.cons (.lit (.int 4)) .nil)) (.cons (.lit (.str "if")) (.cons (.sl (.var 1) (.cons (.lit (.int 2)) .nil) (.cons (.lit (.int 4)) .nil)) .nil))))))))))))) (.var 2) (.tup .nil)),
    .ite (.cmp .NotEq (.lcF [4] (.nm 4) (.seq (.var 3)) (.cons (.bop .Or (.cons (.cmp .NotEq (.call 0 (.cons (.var 4) .nil)) (.lit (.int 2))) (.cons (.not (.chn .LtE .Lt (.lit (.int 0)) (.var 4) (.lit (.int 4)))) .nil))) .nil) (.var 4)) (.lstF .nil))
    [.ret (.lit (.bl false))]
    [],
    .ite (.cmp .In (.var 2) (.tup (.cons (.lit (.str "go")) (.cons (.lit (.str "if")) .nil))))
    [.ret (.bop .And (.cons (.cmp .Eq (.call 0 (.cons (.idx (.var 1) (.neg (.lit (.int 1)))) .nil)) (.lit (.int 2))) (.cons (.chn .LtE .Lt (.lit (.int 0)) (.idx (.var 1) (.neg (.lit (.int 1)))) (.var 0)) .nil)))]
    [],
    .ite (.cmp .In (.var 2) (.tup (.cons (.lit (.str "put")) (.cons (.lit (.str "fault")) .nil))))
    [.ret (.bop .And (.cons (.cmp .Eq (.call 0 (.cons (.idx (.var 1) (.neg (.lit (.int 1)))) .nil)) (.lit (.int 2))) (.cons (.chn .LtE .Lt (.lit (.int 0)) (.idx (.var 1) (.neg (.lit (.int 1)))) (.ite (.cmp .Eq (.var 2) (.lit (.str "put"))) (.lit (.int 256)) (.lit (.int 10)))) .nil)))]
    [],
    .ret (.lit (.bl true))]
abbrev N_law_is_order : List Str := ["many", "value", "kind", "registers", "own"]
def a_law_near : List Sm := [.par 2 3 (.idx (.var 0) (.lit (.int 0))) (.lstF .nil),
    .set 4 (.dget (.disp (.cons (.lit (.str "put")) (.cons (.lstF (.cons (.lit (.int 1)) .nil)) (.cons (.lit (.str "copy")) (.cons (.lstF (.cons (.lit (.int 1)) (.cons (.lit (.int 2)) .nil))) (.cons (.lit (.str "load")) (.cons (.lstF (.cons (.lit (.int 1)) (.cons (.lit (.int 2)) .nil))) (.cons (.lit (.str "store")) (.cons (.lstF (.cons (.lit (.int 1)) (.cons (.lit (.int 2)) .nil))) (.cons (.lit (.str "do")) (.cons (.lstF (.cons (.lit (.int 2)) (.cons (.lit (.int 3)) .nil))) (.cons (.lit (.str "if")) (.cons (.lstF (.cons (.lit (.int 2)) (.cons (.lit (.int 3)) .nil))) .nil))))))))))))) (.var 2) (.lstF .nil)),
    .fo (.nm 5) (.seq (.var 4))
    [.set 3 (.bin .Add (.var 3) (.lcF [6] (.nm 6) (.seq (.tup (.cons (.lit (.int 0)) (.cons (.lit (.int 3)) (.cons (.lit (.int 4)) (.cons (.neg (.lit (.int 1))) (.cons (.lit (.bl true)) (.cons (.lit .non) (.cons (.lit (.str "0")) .nil))))))))) .nil (.bin .Add (.bin .Add (.sl (.var 0) .nil (.cons (.var 5) .nil)) (.tup (.cons (.var 6) .nil))) (.sl (.var 0) (.cons (.bin .Add (.var 5) (.lit (.int 1))) .nil) .nil))))],
    .ite (.cmp .In (.var 2) (.tup (.cons (.lit (.str "go")) (.cons (.lit (.str "if")) .nil))))
    [.set 3 (.bin .Add (.var 3) (.lcF [6] (.nm 6) (.seq (.tup (.cons (.lit (.int 0)) (.cons (.bin .Sub (.var 1) (.lit (.int 1))) (.cons (.var 1) (.cons (.bin .Add (.var 1) (.lit (.int 1))) (.cons (.lit (.int 59)) (.cons (.lit (.int 60)) (.cons (.neg (.lit (.int 1))) (.cons (.lit .non) (.cons (.lit (.bl true)) .nil))))))))))) .nil (.bin .Add (.sl (.var 0) .nil (.cons (.neg (.lit (.int 1))) .nil)) (.tup (.cons (.var 6) .nil)))))]
    [],
    .ite (.cmp .In (.var 2) (.tup (.cons (.lit (.str "put")) (.cons (.lit (.str "fault")) .nil))))
    [.set 3 (.bin .Add (.var 3) (.lcF [6] (.nm 6) (.seq (.tup (.cons (.lit (.int 0)) (.cons (.lit (.int 9)) (.cons (.lit (.int 10)) (.cons (.lit (.int 255)) (.cons (.lit (.int 256)) (.cons (.neg (.lit (.int 1))) (.cons (.lit .non) (.cons (.lit (.bl false)) .nil)))))))))) .nil (.bin .Add (.sl (.var 0) .nil (.cons (.neg (.lit (.int 1))) .nil)) (.tup (.cons (.var 6) .nil)))))]
    [],
    .ret (.var 3)]
abbrev N_law_near : List Str := ["order", "many", "kind", "found", "spots", "spot", "own"]
def a_law_right : List Sm := [.par 2 3 (.blt .len (.cons (.var 1) .nil)) (.call 0 (.cons (.var 0) (.cons (.blt .len (.cons (.var 1) .nil)) .nil))),
    .ite (.cmp .IsNot (.call 1 (.cons (.var 1) .nil)) (.lit (.bl true)))
    [.ret (.lit (.bl false))]
    [],
    .fo (.nm 4) (.seq (.tup (.cons (.var 3) (.cons (.bin .Sub (.var 2) (.lit (.int 1))) (.cons (.blt .max2 (.cons (.lit (.int 0)) (.cons (.bin .Sub (.var 2) (.lit (.int 2))) .nil))) .nil)))))
    [.fo (.nm 5) (.seq (.call 2 (.cons (.idx (.var 1) (.var 4)) (.cons (.var 2) .nil))))
    [.ite (.not (.call 3 (.cons (.call 1 (.cons (.bin .Add (.bin .Add (.sl (.var 1) .nil (.cons (.var 4) .nil)) (.tup (.cons (.var 5) .nil))) (.sl (.var 1) (.cons (.bin .Add (.var 4) (.lit (.int 1))) .nil) .nil)) .nil)) (.cons (.call 4 (.cons (.var 2) (.cons (.var 5) .nil))) .nil))))
    [.ret (.lit (.bl false))]
    []],
    .set 6 (.lstF (.cons (.lit .non) (.cons (.tup .nil) (.cons (.bltF .list (.cons (.idx (.var 1) (.var 4)) .nil)) (.cons (.bin .Add (.idx (.var 1) (.var 4)) (.tup (.cons (.lit (.int 0)) .nil))) (.cons (.tup (.cons (.lit (.str "noop")) .nil)) (.cons (.tup (.cons (.idx (.var 1) (.var 4)) .nil)) (.cons (.tup (.cons (.lit (.str "End")) .nil)) .nil)))))))),
    .ite (.cmp .NotEq (.lcF [5] (.nm 5) (.seq (.var 6)) (.cons (.cmp .IsNot (.call 1 (.cons (.bin .Add (.bin .Add (.sl (.var 1) .nil (.cons (.var 4) .nil)) (.tup (.cons (.var 5) .nil))) (.sl (.var 1) (.cons (.bin .Add (.var 4) (.lit (.int 1))) .nil) .nil)) .nil)) (.lit (.bl false))) .nil) (.var 5)) (.lstF .nil))
    [.ret (.lit (.bl false))]
    []],
    .set 7 (.lstF (.cons (.tup (.cons (.lit (.str "put")) (.cons (.lit (.int 3)) (.cons (.lit (.int 1)) .nil)))) (.cons (.tup (.cons (.lit (.str "copy")) (.cons (.lit (.int 0)) (.cons (.lit (.int 3)) .nil)))) (.cons (.tup (.cons (.lit (.str "if")) (.cons (.lit (.str "same")) (.cons (.lit (.int 3)) (.cons (.lit (.int 3)) (.cons (.lit (.int 0)) .nil)))))) (.cons (.tup (.cons (.lit (.str "store")) (.cons (.lit (.int 3)) (.cons (.lit (.int 3)) .nil)))) (.cons (.tup (.cons (.lit (.str "go")) (.cons (.lit (.int 0)) .nil))) (.cons (.tup (.cons (.lit (.str "end")) .nil)) (.cons (.tup (.cons (.lit (.str "fault")) (.cons (.lit (.int 7)) .nil))) .nil)))))))),
    .ret (.call 3 (.cons (.lcF [8] (.nm 8) (.seq (.var 7)) .nil (.call 1 (.cons (.bin .Add (.sl (.var 1) .nil (.cons (.neg (.lit (.int 1))) .nil)) (.tup (.cons (.var 8) .nil))) .nil))) (.cons (.bin .Add (.frz (.bin .Mult (.lst (.cons (.lit (.bl false)) .nil)) (.lit (.int 4)))) (.frz (.bin .Mult (.lst (.cons (.lit (.bl true)) .nil)) (.lit (.int 3))))) .nil)))]
abbrev N_law_right : List Str := ["cup", "program", "many", "at", "spot", "odd", "odds", "lasts", "last"]
def a_law_words_right : List Sm := [.set 2 (.call 0 (.cons (.var 1) .nil)),
    .set 3 (.lcF [4] (.nm 4) (.rng (.cons (.lit (.int 12)) .nil)) .nil (.call 1 (.cons (.var 0) (.cons (.lstF (.cons (.lit (.int 0)) (.cons (.bin .Sub (.var 2) (.lit (.int 1))) (.cons (.call 2 (.cons (.var 0) (.cons (.var 2) .nil))) .nil)))) .nil)))),
    .fo (.nm 4) (.rng (.cons (.lit (.int 12)) .nil))
    [.fo (.tup [5, 6]) (.seq (.tup (.cons (.tup (.cons (.var 2) (.cons (.lit (.bl false)) .nil))) (.cons (.tup (.cons (.neg (.lit (.int 1))) (.cons (.lit (.bl false)) .nil))) (.cons (.tup (.cons (.lit .non) (.cons (.lit (.bl true)) .nil))) (.cons (.tup (.cons (.lit (.bl true)) (.cons (.lit (.bl false)) .nil))) (.cons (.tup (.cons (.lit (.str "0")) (.cons (.lit (.bl false)) .nil))) (.cons (.tup (.cons (.bin .Sub (.var 2) (.lit (.int 1))) (.cons (.lit (.bl true)) .nil))) (.cons (.tup (.cons (.tup (.cons (.lit (.int 0)) .nil)) (.cons (.lit (.bl false)) .nil))) .nil)))))))))
    [.set 7 (.bin .Add (.bin .Add (.sl (.var 3) .nil (.cons (.var 4) .nil)) (.lstF (.cons (.var 5) .nil))) (.sl (.var 3) (.cons (.bin .Add (.var 4) (.lit (.int 1))) .nil) .nil)),
    .set 8 (.tup (.cons (.blt .tuple (.cons (.sl (.var 7) .nil (.cons (.lit (.int 4)) .nil)) .nil)) (.cons (.blt .tuple (.cons (.sl (.var 7) (.cons (.lit (.int 4)) .nil) .nil) .nil)) .nil))),
    .set 9 (.bop .And (.cons (.var 6) (.cons (.cmp .IsNot (.var 5) (.lit .non)) .nil))),
    .ite (.not (.call 3 (.cons (.lstF (.cons (.call 6 (.cons (.var 1) (.cons (.var 8) .nil))) (.cons (.call 5 (.cons (.var 1) (.cons (.var 8) .nil))) (.cons (.call 4 (.cons (.var 1) (.cons (.bin .Add (.tup (.cons (.lit (.int 59)) .nil)) (.var 8)) .nil))) .nil)))) (.cons (.lstF (.cons (.var 9) (.cons (.var 6) (.cons (.var 9) .nil)))) .nil))))
    [.ret (.lit (.bl false))]
    []]],
    .ret (.lit (.bl true))]
abbrev N_law_words_right : List Str := ["cup", "width", "whole", "words", "at", "odd", "is_told", "own", "pair", "is_good"]
def a_law_written_right : List Sm := [.set 0 (.tup (.cons (.lit (.str "end")) .nil)),
    .par 1 2 (.lstF .nil) (.lstF .nil),
    .fo (.nm 3) (.seq (.tup (.cons (.lit (.int 31)) (.cons (.lit (.int 40)) (.cons (.lit (.int 41)) (.cons (.lit (.int 59)) (.cons (.lit (.int 60)) .nil)))))))
    [.set 4 (.bin .Mult (.tup (.cons (.tup (.cons (.lit (.str "put")) (.cons (.lit (.int 3)) (.cons (.lit (.int 1)) .nil)))) .nil)) (.bin .Sub (.var 3) (.lit (.int 1)))),
    .set 1 (.bin .Add (.var 1) (.lstF (.cons (.bin .Add (.var 4) (.tup (.cons (.var 0) .nil))) (.cons (.bin .Add (.var 4) (.tup (.cons (.tup (.cons (.lit (.str "go")) (.cons (.bin .Sub (.var 3) (.lit (.int 1))) .nil))) .nil))) (.cons (.bin .Add (.sl (.var 4) .nil (.cons (.neg (.lit (.int 1))) .nil)) (.tup (.cons (.tup (.cons (.lit (.str "if")) (.cons (.lit (.str "less")) (.cons (.lit (.int 3)) (.cons (.lit (.int 2)) (.cons (.bin .Sub (.var 3) (.lit (.int 1))) .nil)))))) (.cons (.var 0) .nil)))) (.cons (.bin .Add (.sl (.var 4) .nil (.cons (.neg (.lit (.int 1))) .nil)) (.tup (.cons (.tup (.cons (.lit (.str "do")) (.cons (.lit (.str "xor")) (.cons (.lit (.int 3)) (.cons (.lit (.int 3)) .nil))))) (.cons (.tup (.cons (.lit (.str "fault")) (.cons (.lit (.int 9)) .nil))) .nil)))) .nil)))))),
    .set 2 (.bin .Add (.var 2) (.lstF (.cons (.bin .Add (.var 4) (.tup (.cons (.tup (.cons (.lit (.str "put")) (.cons (.lit (.int 3)) (.cons (.lit (.int 1)) .nil)))) .nil))) (.cons (.bin .Add (.var 4) (.tup (.cons (.tup (.cons (.lit (.str "go")) (.cons (.var 3) .nil))) .nil))) (.cons (.bin .Add (.sl (.var 4) .nil (.cons (.neg (.lit (.int 1))) .nil)) (.tup (.cons (.tup (.cons (.lit (.str "if")) (.cons (.lit (.str "less")) (.cons (.lit (.int 3)) (.cons (.lit (.int 2)) (.cons (.var 3) .nil)))))) (.cons (.var 0) .nil)))) (.cons (.bin .Add (.sl (.var 4) .nil (.cons (.neg (.lit (.int 1))) .nil)) (.tup (.cons (.tup (.cons (.lit (.str "do")) (.cons (.lit (.str "xor")) (.cons (.lit (.int 3)) (.cons (.lit (.int 4)) .nil))))) (.cons (.var 0) .nil)))) .nil)))))),
    .set 2 (.bin .Add (.var 2) (.lstF (.cons (.bin .Add (.sl (.var 4) .nil (.cons (.neg (.lit (.int 1))) .nil)) (.tup (.cons (.tup (.cons (.lit (.str "put")) (.cons (.lit (.int 4)) (.cons (.lit (.int 1)) .nil)))) (.cons (.var 0) .nil)))) (.cons (.bin .Add (.sl (.var 4) .nil (.cons (.neg (.lit (.int 1))) .nil)) (.tup (.cons (.tup (.cons (.lit (.str "fault")) (.cons (.lit (.int 10)) .nil))) (.cons (.var 0) .nil)))) (.cons (.bin .Add (.sl (.var 4) .nil (.cons (.neg (.lit (.int 1))) .nil)) (.tup (.cons (.lit .non) (.cons (.var 0) .nil)))) (.cons (.bin .Add (.bin .Add (.tup (.cons (.tup (.cons (.lit (.str "go")) (.cons (.var 3) .nil))) .nil)) (.sl (.var 4) (.cons (.lit (.int 1)) .nil) .nil)) (.tup (.cons (.var 0) .nil))) (.cons (.bin .Add (.sl (.var 4) .nil (.cons (.neg (.lit (.int 1))) .nil)) (.tup (.cons (.tup (.cons (.lit (.str "copy")) (.cons (.lit (.int 3)) .nil))) (.cons (.var 0) .nil)))) .nil)))))))],
    .set 2 (.bin .Add (.var 2) (.lstF (.cons (.bin .Mult (.tup (.cons (.var 0) .nil)) (.lit (.int 61))) (.cons (.bin .Add (.tup (.cons (.tup (.cons (.lit (.str "go")) (.cons (.lit (.int 60)) .nil))) .nil)) (.bin .Mult (.tup (.cons (.var 0) .nil)) (.lit (.int 59)))) (.cons (.bin .Add (.bin .Mult (.tup (.cons (.var 0) .nil)) (.lit (.int 59))) (.tup (.cons (.tup (.cons (.lit (.str "go")) (.cons (.lit (.int 60)) .nil))) .nil))) .nil))))),
    .ret (.cmp .Eq (.bin .Add (.lcF [5] (.nm 5) (.seq (.var 1)) (.cons (.cmp .IsNot (.call 0 (.cons (.var 5) .nil)) (.lit (.bl true))) .nil) (.var 5)) (.lcF [5] (.nm 5) (.seq (.var 2)) (.cons (.cmp .IsNot (.call 0 (.cons (.var 5) .nil)) (.lit (.bl false))) .nil) (.var 5))) (.lstF .nil))]
abbrev N_law_written_right : List Str := ["end", "good", "bads", "many", "row", "one"]
def a_law : List Sm := [.ite (.not (.call 0 .nil))
    [.ret (.lit (.bl false))]
    [],
    .set 1 (.call 1 (.cons (.var 0) .nil)),
    .fo (.nm 2) (.seq (.tup (.cons (.lit (.int 1)) (.cons (.lit (.int 5)) (.cons (.lit (.int 20)) (.cons (.lit (.int 45)) (.cons (.lit (.int 60)) (.cons (.lit (.int 60)) (.cons (.lit (.int 60)) .nil)))))))))
    [.ite (.not (.call 2 (.cons (.var 1) (.cons (.call 3 (.cons (.var 1) (.cons (.var 2) .nil))) .nil))))
    [.ret (.lit (.bl false))]
    []],
    .fo (.nm 3) (.seq (.tup (.cons (.lit (.int 1)) (.cons (.lit (.int 2)) (.cons (.lit (.int 3)) (.cons (.lit (.int 8)) .nil))))))
    [.ite (.not (.call 4 (.cons (.var 1) (.cons (.var 3) .nil))))
    [.ret (.lit (.bl false))]
    []],
    .ret (.lit (.bl true))]
abbrev N_law : List Str := ["script", "cup", "most", "width"]
end C00

set_option maxRecDepth 100000
set_option linter.all false
set_option maxHeartbeats 1000000
namespace PL
open PySem PySem.Spec
/-- a pure function's contract -/
def pc (f : List PV → Option PV) : Con := fun xs S Q => ∃ v, f xs = some v ∧ Q v S
theorem pc_at {f : List PV → Option PV} {xs : List PV} {S : Sto} {Q : PK1} {v : PV} (h : f xs = some v) (q : Q v S) : pc f xs S Q := ⟨v, h, q⟩
theorem pc_eq {f : List PV → Option PV} {xs : List PV} {S : Sto} {Q : PK1} : pc f xs S Q = (match f xs with | some v => Q v S | none => False) := by
  unfold pc
  cases h : f xs with
  | none => simp
  | some v => simp
theorem ret_here {S : Sto} {Q : PK1} {v : PV} (q : Q v S) : ∃ S2, SubS S2 S ∧ Q v S2 := ⟨S, SubS.refl S, q⟩
@[simp] theorem eq_true_and' {b : Bool} {P : Prop} : (b = true ∧ P) = (b = true ∧ P) := rfl
section
variable {S : Sto} {Q : PK1} {xs ys : List PV} {x y : PV} {i j : Int} {z z' : Str} {b : Bool}
@[simp] theorem truP_rol : truP (.rol xs) S = some (!xs.isEmpty) := rfl
@[simp] theorem truQ_rol {QB : Bool → Sto → Prop} : truQ QB (.rol xs) S = QB (!xs.isEmpty) S := rfl
@[simp] theorem blt_len_rol : bltP .len [.rol xs] S Q = Q (.int xs.length) S := rfl
@[simp] theorem blt_tup_rol : bltP .tuple [.rol xs] S Q = Q (.tup xs) S := rfl
@[simp] theorem bltF_list_tup : bltFP .list [.tup xs] S Q = Q (.rol xs) S := rfl
@[simp] theorem bltF_list_rol : bltFP .list [.rol xs] S Q = Q (.rol xs) S := rfl
@[simp] theorem slP_rol {lo hi : Option Int} : slP (.rol xs) lo hi S Q = Q (.rol (cutP xs lo hi)) S := rfl
@[simp] theorem slFP_rol {lo hi : Option Int} : slFP (.rol xs) lo hi S Q = Q (.rol (cutP xs lo hi)) S := rfl
@[simp] theorem revP_tup : revP (.tup xs) S Q = Q (.tup xs.reverse) S := rfl
@[simp] theorem revP_rol : revP (.rol xs) S Q = Q (.rol xs.reverse) S := rfl
@[simp] theorem addP_rol : addP (.rol xs) (.rol ys) S Q = (xs.length + ys.length ≤ sizeLine ∧ Q (.rol (xs ++ ys)) S) := rfl
theorem addP_refrol {p : Addr} (h : S p = some (.lst xs)) : addP (.ref p) (.rol ys) S Q = (xs.length + ys.length ≤ sizeLine ∧ Q (.rol (xs ++ ys)) S) := by simp only [addP, h]
theorem frz_at {p : Addr} (h : S p = some (.lst xs)) : frzP (.ref p) S Q = Q (.rol xs) (dropS S p) := by simp only [frzP, h]
theorem frz_new (q : Q (.rol xs) S) : ∀ p, S p = none → frzP (.ref p) (updS S p (.lst xs)) Q := fun p hp => by
  rw [frz_at updS_same, dropS_new hp]; exact q
@[simp] theorem frz_tup : frzP (.tup xs) S Q = Q (.tup xs) S := rfl
@[simp] theorem frz_rol : frzP (.rol xs) S Q = Q (.rol xs) S := rfl
@[simp] theorem idxP_tup_atI : idxP (.tup xs) (.int i) S Q = (match L2.atI xs i with | some v => Q v S | none => False) := rfl
@[simp] theorem idxP_rol_atI : idxP (.rol xs) (.int i) S Q = (match L2.atI xs i with | some v => Q v S | none => False) := rfl
@[simp] theorem atI_nat' {α : Type} {xs : List α} {j : Nat} : L2.atI xs (j : Int) = xs[j]? := atI_of xs j
@[simp] theorem atI_m1' {α : Type} {xs : List α} : L2.atI xs (-1) = xs.getLast? := atI_m1 xs
@[simp] theorem lfP_nil {Gd : Sto → Prop} {body : PV → Sto → (Option PV → Sto → Prop) → Prop} {acc : List PV} : lfP Gd body Q [] acc S = (Gd S ∧ Q (.rol acc) S) := rfl
theorem lfP_cons {Gd : Sto → Prop} {body : PV → Sto → (Option PV → Sto → Prop) → Prop} {acc : List PV} : lfP Gd body Q (x :: xs) acc S = (Gd S ∧ body x S fun r S2 => match r with
    | none => lfP Gd body Q xs acc S2
    | some y => acc.length < sizeLine ∧ lfP Gd body Q xs (acc ++ [y]) S2) := rfl
theorem insI_len (n : Int) : ∀ l : List Int, (insI n l).length ≤ l.length + 1
  | [] => by simp [insI]
  | m :: r => by
    unfold insI
    split
    · simp
    · split
      · simp
      · have := insI_len n r
        simp; omega
theorem ssort_len : ∀ l : List Int, (ssort l).length ≤ l.length
  | [] => Nat.le_refl _
  | n :: r => by
    show (insI n (ssort r)).length ≤ _
    have := insI_len n (ssort r)
    have := ssort_len r
    simp; omega
/-! ### frozen comprehensions -/
theorem lf_pure {α : Type} {Gd : Sto → Prop} {body : PV → Sto → (Option PV → Sto → Prop) → Prop} (g : α → PV) (f : α → Option PV) : ∀ (l : List α) (acc : List PV), acc.length + l.length ≤ sizeLine → Gd S →
    (∀ a ∈ l, ∀ k : Option PV → Sto → Prop, k (f a) S → body (g a) S k) → Q (.rol (acc ++ l.filterMap f)) S → lfP Gd body Q (l.map g) acc S
  | [], acc, _, hg, _, hq => ⟨hg, by simpa using hq⟩
  | a :: l, acc, hl, hg, hb, hq => by
    rw [List.length_cons] at hl
    refine ⟨hg, hb a List.mem_cons_self _ ?_⟩
    cases e : f a with
    | none => exact lf_pure g f l acc (by omega) hg (fun y hy => hb y (List.mem_cons_of_mem _ hy)) (by rw [List.filterMap_cons, e] at hq; exact hq)
    | some y =>
      refine ⟨by omega, ?_⟩
      exact lf_pure g f l (acc ++ [y]) (by rw [List.length_append, List.length_singleton]; omega) hg (fun y hy => hb y (List.mem_cons_of_mem _ hy)) (by rw [List.filterMap_cons, e] at hq; simpa using hq)
/-- every item kept -/
theorem lf_map {α : Type} {Gd : Sto → Prop} {body : PV → Sto → (Option PV → Sto → Prop) → Prop} (g : α → PV) (f : α → PV) (l : List α) (hl : l.length ≤ sizeLine) (hg : Gd S)
    (hb : ∀ a ∈ l, ∀ k : Option PV → Sto → Prop, k (some (f a)) S → body (g a) S k) (hq : Q (.rol (l.map f)) S) : lfP Gd body Q (l.map g) [] S :=
  lf_pure g (fun a => some (f a)) l [] (by simpa using hl) hg hb (by simpa using hq)
theorem lf_map0 {Gd : Sto → Prop} {body : PV → Sto → (Option PV → Sto → Prop) → Prop} (f : PV → PV) (l : List PV) (hl : l.length ≤ sizeLine) (hg : Gd S)
    (hb : ∀ a ∈ l, ∀ k : Option PV → Sto → Prop, k (some (f a)) S → body a S k) (hq : Q (.rol (l.map f)) S) : lfP Gd body Q l [] S := by
  have := lf_map (g := id) f l hl hg hb hq
  simpa using this
/-- .. by a test -/
theorem lf_filter {α : Type} {Gd : Sto → Prop} {body : PV → Sto → (Option PV → Sto → Prop) → Prop} (g : α → PV) (t : α → Bool) (f : α → PV) (l : List α) (hl : l.length ≤ sizeLine) (hg : Gd S)
    (hb : ∀ a ∈ l, ∀ k : Option PV → Sto → Prop, k (if t a then some (f a) else none) S → body (g a) S k) (hq : Q (.rol ((l.filter t).map f)) S) : lfP Gd body Q (l.map g) [] S := by
  refine lf_pure g (fun a => if t a then some (f a) else none) l [] (by simpa using hl) hg hb ?_
  have : l.filterMap (fun a => if t a then some (f a) else none) = (l.filter t).map f := by
    clear hq hb hl
    induction l with
    | nil => rfl
    | cons a l ih => cases e : t a <;> simp [e, ih]
  rw [this]; exact hq
/-- by an invariant over the store -/
theorem lf_by {α : Type} {Gd : Sto → Prop} {body : PV → Sto → (Option PV → Sto → Prop) → Prop} (g : α → PV) (Iv : List α → List PV → Sto → Prop) (l0 : List α) : ∀ (l pre : List α), pre ++ l = l0 → ∀ (acc : List PV) (S : Sto), Iv pre acc S → (∀ pre acc S, Iv pre acc S → Gd S) →
    (∀ pre a post acc S (k : Option PV → Sto → Prop), l0 = pre ++ a :: post → Iv pre acc S → (∀ S2, Iv (pre ++ [a]) acc S2 → k none S2) → (∀ y S2, acc.length < sizeLine → Iv (pre ++ [a]) (acc ++ [y]) S2 → k (some y) S2) → body (g a) S k) →
    (∀ acc S, Iv l0 acc S → Q (.rol acc) S) → lfP Gd body Q (l.map g) acc S
  | [], pre, e, acc, S, h, hg, hs, hd => ⟨hg _ _ _ h, hd _ _ (by rw [← e]; simpa using h)⟩
  | a :: l, pre, e, acc, S, h, hg, hs, hd => by
    refine ⟨hg _ _ _ h, hs pre a l acc S _ e.symm h (fun S2 k => ?_) fun y S2 h1 k => ⟨h1, ?_⟩⟩
    · exact lf_by g Iv l0 l (pre ++ [a]) (by simpa using e) acc S2 k hg hs hd
    · exact lf_by g Iv l0 l (pre ++ [a]) (by simpa using e) (acc ++ [y]) S2 k hg hs hd
/-! ### equality -/
@[simp] theorem eqP_str {neg : Bool} (h : PyData.strOk z = true) (h' : PyData.strOk z' = true) : eqP neg (.str z) (.str z') S Q = Q (.bl (neg ^^ decide (z = z'))) S := by
  have h1 : dat S (.str z) = some (.str z) := by simp [dat, datF, h]
  have h2 : dat S (.str z') = some (.str z') := by simp [dat, datF, h']
  rw [eqP_at h1 h2]
  congr 3
end
end PL

set_option maxRecDepth 100000
set_option linter.all false
set_option maxHeartbeats 1000000
namespace PL.Cm
open PySem PySem.Spec C00
def isI : PV → Bool
  | .int _ => true
  | _ => false
@[simp] theorem isI_int {i : Int} : isI (.int i) = true := rfl
/-- no address -/
def pur : PV → Bool
  | .ref _ => false
  | .dic _ => false
  | _ => true
section
variable {xs : List PV} {i : Int} {b : Bool} {z : Str} {a : Addr}
@[simp] theorem pur_tup : pur (.tup xs) = true := rfl
@[simp] theorem pur_rol : pur (.rol xs) = true := rfl
@[simp] theorem pur_int : pur (.int i) = true := rfl
@[simp] theorem pur_bl : pur (.bl b) = true := rfl
@[simp] theorem pur_str : pur (.str z) = true := rfl
@[simp] theorem pur_non : pur .non = true := rfl
@[simp] theorem pur_ref : pur (.ref a) = false := rfl
@[simp] theorem pur_dic {kvs : List (L2.Key × PV)} : pur (.dic kvs) = false := rfl
end
@[simp] def f_is_integer : List PV → Option PV
  | [x] => if pur x then some (.bl (isI x)) else none
  | _ => none
theorem v_is_integer (xs S Q) (h : pc f_is_integer xs S Q) : wSs (pvAt []) (conAt []) a_is_integer (rets Q) (startP 1 xs) S := by
  obtain ⟨v, h, q⟩ := h
  unfold f_is_integer at h
  split at h
  case h_2 => cases h
  rename_i x
  cases x <;> simp at h <;> subst h <;> simp [a_is_integer, isI] at q ⊢ <;> exact ret_here q
/-- an integer from lo to hi -/
def inR (x : PV) (lo hi : Int) : Bool := match x with
  | .int i => decide (lo ≤ i) && decide (i ≤ hi)
  | _ => false
@[simp] theorem inR_int {i lo hi : Int} : inR (.int i) lo hi = (decide (lo ≤ i) && decide (i ≤ hi)) := rfl
@[simp] def f_is_whole : List PV → Option PV
  | [x, .int lo, .int hi] => if pur x then some (.bl (inR x lo hi)) else none
  | _ => none
theorem v_is_whole (xs S Q) (h : pc f_is_whole xs S Q) : wSs (pvAt []) (conAt [pc f_is_integer]) a_is_whole (rets Q) (startP 3 xs) S := by
  obtain ⟨v, h, q⟩ := h
  unfold f_is_whole at h
  split at h
  case h_2 => cases h
  rename_i x lo hi
  have q := ret_here q
  cases x <;> simp at h <;> subst h <;> simp [a_is_whole, pc_eq, isI] <;> (try exact q)
  cases h : decide (lo ≤ _) <;> simp [h] at q <;> simp at h <;> simp [h] <;> exact q
/-- a tuple of lo to hi items -/
def tupR (x : PV) (lo hi : Int) : Bool := match x with
  | .tup xs => decide (lo ≤ xs.length) && decide ((xs.length : Int) ≤ hi)
  | _ => false
@[simp] theorem tupR_tup {i : List PV} {lo hi : Int} : tupR (.tup i) lo hi = (decide (lo ≤ i.length) && decide ((i.length : Int) ≤ hi)) := rfl
@[simp] def f_is_tuple_of : List PV → Option PV
  | [x, .int lo, .int hi] => if pur x then some (.bl (tupR x lo hi)) else none
  | _ => none
theorem v_is_tuple_of (xs S Q) (h : pc f_is_tuple_of xs S Q) : wSs (pvAt []) (conAt []) a_is_tuple_of (rets Q) (startP 3 xs) S := by
  obtain ⟨v, h, q⟩ := h
  unfold f_is_tuple_of at h
  split at h
  case h_2 => cases h
  rename_i x lo hi
  replace q := ret_here q
  cases x with
  | tup ys =>
    simp at h; subst h; simp [a_is_tuple_of]
    cases h : decide (lo ≤ ys.length) <;> simp [h] at q <;> simp at h <;> simp [h] <;> exact q
  | _ => simp at h <;> subst h <;> simp [a_is_tuple_of] <;> exact q
/-! words -/
@[simp] theorem ok_put_ : PyData.strOk (Str.ofString "put") = true := by decide +kernel
@[simp] theorem ok_copy_ : PyData.strOk (Str.ofString "copy") = true := by decide +kernel
@[simp] theorem ok_do_ : PyData.strOk (Str.ofString "do") = true := by decide +kernel
@[simp] theorem ok_load_ : PyData.strOk (Str.ofString "load") = true := by decide +kernel
@[simp] theorem ok_store_ : PyData.strOk (Str.ofString "store") = true := by decide +kernel
@[simp] theorem ok_if_ : PyData.strOk (Str.ofString "if") = true := by decide +kernel
@[simp] theorem ok_go_ : PyData.strOk (Str.ofString "go") = true := by decide +kernel
@[simp] theorem ok_end_ : PyData.strOk (Str.ofString "end") = true := by decide +kernel
@[simp] theorem ok_fault_ : PyData.strOk (Str.ofString "fault") = true := by decide +kernel
@[simp] theorem ok_add_ : PyData.strOk (Str.ofString "add") = true := by decide +kernel
@[simp] theorem ok_sub_ : PyData.strOk (Str.ofString "sub") = true := by decide +kernel
@[simp] theorem ok_mul_ : PyData.strOk (Str.ofString "mul") = true := by decide +kernel
@[simp] theorem ok_and_ : PyData.strOk (Str.ofString "and") = true := by decide +kernel
@[simp] theorem ok_or_ : PyData.strOk (Str.ofString "or") = true := by decide +kernel
@[simp] theorem ok_xor_ : PyData.strOk (Str.ofString "xor") = true := by decide +kernel
@[simp] theorem ok_left_ : PyData.strOk (Str.ofString "left") = true := by decide +kernel
@[simp] theorem ok_right_ : PyData.strOk (Str.ofString "right") = true := by decide +kernel
@[simp] theorem ok_same_ : PyData.strOk (Str.ofString "same") = true := by decide +kernel
@[simp] theorem ok_less_ : PyData.strOk (Str.ofString "less") = true := by decide +kernel
@[simp] theorem ok_more_ : PyData.strOk (Str.ofString "more") = true := by decide +kernel
@[simp] theorem ok_noop_ : PyData.strOk (Str.ofString "noop") = true := by decide +kernel
@[simp] theorem ok_End_ : PyData.strOk (Str.ofString "End") = true := by decide +kernel
@[simp] theorem ok_0_ : PyData.strOk (Str.ofString "0") = true := by decide +kernel
/-! one of several words -/
def strsOf : List PV → Option (List Str)
  | [] => some []
  | .str z :: r => (strsOf r).map (z :: ·)
  | _ :: _ => none
def sts (l : List Str) : PV := .tup (l.map .str)
def okS (z : Str) : Bool := PyData.strOk z
def isOne (x : PV) (l : List Str) : Bool := match x with
  | .str z => l.any fun y => decide (y = z)
  | _ => false
theorem any_str (l : List Str) (z : Str) : ((l.map PyData.str).any fun y => PyData.eqv y (.str z)) = l.any fun y => decide (y = z) := by
  induction l with
  | nil => rfl
  | cons a l ih => rw [List.map_cons, List.any_cons, List.any_cons, ih]; rfl
theorem dat_strs {S : Sto} {l : List Str} (h : ∀ z ∈ l, PyData.strOk z = true) : dat S (sts l) = some (.tuple (l.map .str)) :=
  dat_tupmap 6 PV.str PyData.str l fun z hz => by simp [datF, h z hz]
theorem inP_strs {S : Sto} {Q : PK1} {neg : Bool} {l : List Str} {z : Str} (hl : ∀ y ∈ l, PyData.strOk y = true) (hz : PyData.strOk z = true) : inP neg (.str z) (sts l) S Q = Q (.bl (neg ^^ l.any fun y => decide (y = z))) S := by
  have h1 : dat S (.str z) = some (.str z) := by simp [dat, datF, hz]
  have h2 := dat_strs (S := S) hl
  unfold sts at h2 ⊢
  simp only [inP, h1, h2, any_str]
def okV (x : PV) : Bool := match x with
  | .str z => PyData.strOk z
  | .ref _ => false
  | .dic _ => false
  | _ => true
def c_is_one_of : Con := fun xs S Q => ∃ x l, xs = [x, sts l] ∧ okV x = true ∧ (∀ y ∈ l, PyData.strOk y = true) ∧ Q (.bl (isOne x l)) S
theorem v_is_one_of (xs S Q) (h : c_is_one_of xs S Q) : wSs (pvAt []) (conAt []) a_is_one_of (rets Q) (startP 2 xs) S := by
  obtain ⟨x, l, rfl, h1, h2, q⟩ := h
  have q := ret_here q
  cases x <;> simp [okV] at h1 <;> simp [a_is_one_of] <;> (try exact q)
  rw [inP_strs h2 h1]
  simpa [isOne] using q
/-! widths, words -/
@[simp] def f_fits_width : List PV → Option PV
  | [x] => if pur x then some (.bl (inR x 1 8)) else none
  | _ => none
theorem v_fits_width (xs S Q) (h : pc f_fits_width xs S Q) : wSs (pvAt [.int 8]) (conAt [pc f_is_whole]) a_fits_width (rets Q) (startP 1 xs) S := by
  obtain ⟨v, h, q⟩ := h
  unfold f_fits_width at h
  split at h
  case h_2 => cases h
  split at h
  case isFalse => cases h
  rename_i hp
  cases h
  simp [a_fits_width, pc_eq, hp]
  exact ret_here q
@[simp] def f_need_width : List PV → Option PV
  | [x] => if inR x 1 8 then some .non else none
  | _ => none
theorem inR_pur {x : PV} {a b : Int} (h : inR x a b = true) : pur x = true := by cases x <;> simp [inR] at h <;> rfl
theorem v_need_width (xs S Q) (h : pc f_need_width xs S Q) : wSs (pvAt []) (conAt [pc f_fits_width]) a_need_width (rets Q) (startP 1 xs) S := by
  obtain ⟨v, h, q⟩ := h
  unfold f_need_width at h
  split at h
  case h_2 => cases h
  split at h
  case isFalse => cases h
  rename_i hp
  cases h
  simp [a_need_width, pc_eq, hp, inR_pur hp]
  exact ret_here q
abbrev wdB (w : Int) (x : PV) : Bool := inR x 0 (2 ^ w.toNat - 1)
@[simp] def f_fits_word : List PV → Option PV
  | [.int w, x] => if 0 ≤ w ∧ w ≤ 1000 ∧ pur x = true then some (.bl (wdB w x)) else none
  | _ => none
theorem v_fits_word (xs S Q) (h : pc f_fits_word xs S Q) : wSs (pvAt []) (conAt [pc f_is_whole]) a_fits_word (rets Q) (startP 2 xs) S := by
  obtain ⟨v, h, q⟩ := h
  unfold f_fits_word at h
  split at h
  case h_2 => cases h
  split at h
  case isFalse => cases h
  rename_i hp
  cases h
  simp [a_fits_word, pc_eq, hp]
  exact ⟨by omega, ret_here q⟩
def purs : PV → Bool
  | .tup ys => ys.all pur
  | x => pur x
theorem purs_pur {x : PV} (h : purs x = true) : pur x = true := by cases x <;> first | exact h | rfl
def areW (w many : Int) (x : PV) : Bool := match x with
  | .tup ys => decide ((ys.length : Int) = many) && ys.all (wdB w)
  | _ => false
def f_are_words : List PV → Option PV
  | [.int w, x, .int many] => if 0 ≤ w ∧ w ≤ 1000 ∧ 0 ≤ many ∧ many ≤ 1000 ∧ purs x = true then some (.bl (areW w many x)) else none
  | _ => none
theorem all_bl {S : Sto} {Q : PK1} {α : Type} (f : α → Bool) (l : List α) : bltP .all [.rol (l.map fun a => .bl (f a))] S Q = Q (.bl (l.all f)) S := by
  rw [blt_all (bs := l.map f) (by simp [blsP_map])]
  congr 2
  simp [List.all_map]
theorem between {n : Int} {k : Nat} (h : ¬ (k : Int) = n) : (decide (n ≤ k) && decide ((k : Int) ≤ n)) = false := by
  rw [Bool.and_eq_false_iff, decide_eq_false_iff_not, decide_eq_false_iff_not]; omega
theorem v_are_words (xs S Q) (h : pc f_are_words xs S Q) : wSs (pvAt []) (conAt [pc f_fits_word, pc f_is_tuple_of]) a_are_words (rets Q) (startP 4 xs) S := by
  obtain ⟨v, h, q⟩ := h
  unfold f_are_words at h
  split at h
  case h_2 => cases h
  split at h
  case isFalse => cases h
  rename_i w x many hp
  cases h
  obtain ⟨h1, h2, h3, h4, h5⟩ := hp
  replace q := ret_here q
  cases x with
  | tup ys =>
    simp [a_are_words, pc_eq]
    by_cases hl : (ys.length : Int) = many
    · simp [hl]
      refine lf_map0 (fun x => .bl (wdB w x)) ys (by simp; omega) trivial (fun a ha k hk => ?_) ?_
      · have : pur a = true := List.all_eq_true.mp h5 a ha
        simpa [h1, h2, this] using hk
      · rw [all_bl]
        simpa [areW, hl] using q
    · simp only [areW, hl, decide_false, Bool.false_and] at q
      rw [if_neg (by omega), between hl]
      exact q
  | _ => simp [purs] at h5 <;> simp [a_are_words, pc_eq, tupR] <;> simpa [areW] using q
end PL.Cm

set_option maxRecDepth 100000
set_option linter.all false
set_option maxHeartbeats 4000000
namespace PL.Cm
open PySem PySem.Spec C00
abbrev regB (x : PV) : Bool := inR x 0 3
@[simp] def f_is_register : List PV → Option PV
  | [x] => if pur x then some (.bl (regB x)) else none
  | _ => none
theorem v_is_register (xs S Q) (h : pc f_is_register xs S Q) : wSs (pvAt [.int 4]) (conAt [pc f_is_whole]) a_is_register (rets Q) (startP 1 xs) S := by
  obtain ⟨v, h, q⟩ := h
  unfold f_is_register at h
  split at h
  case h_2 => cases h
  split at h
  case isFalse => cases h
  rename_i hp
  cases h
  simp [a_is_register, pc_eq, hp]
  exact ret_here q
@[simp] def f_are_registers : List PV → Option PV
  | [.tup ys] => if ys.all pur = true ∧ ys.length ≤ 1000 then some (.bl (ys.all regB)) else none
  | _ => none
theorem v_are_registers (xs S Q) (h : pc f_are_registers xs S Q) : wSs (pvAt []) (conAt [pc f_is_register]) a_are_registers (rets Q) (startP 2 xs) S := by
  obtain ⟨v, h, q⟩ := h
  unfold f_are_registers at h
  split at h
  case h_2 => cases h
  split at h
  case isFalse => cases h
  rename_i ys hp
  cases h
  simp [a_are_registers, pc_eq]
  refine lf_map0 (fun x => .bl (regB x)) ys (by simp; omega) trivial (fun a ha k hk => ?_) ?_
  · have : pur a = true := List.all_eq_true.mp hp.1 a ha
    simpa [this] using hk
  · rw [all_bl]
    exact ret_here q
abbrev kOps : List Str := ["add", "sub", "mul", "and", "or", "xor", "left", "right"]
abbrev kRel : List Str := ["same", "less"]
def kLong : List (Str × Int) := [("put", 3), ("copy", 3), ("do", 4), ("load", 3), ("store", 3), ("if", 5), ("go", 2), ("end", 1), ("fault", 2)]
abbrev pvLong : PV := .tup (kLong.map fun p => .tup [.str p.1, .int p.2])
def okO : PV → Bool
  | .tup ys => ys.all okV
  | .ref _ => false
  | .dic _ => false
  | _ => true
theorem okV_pur {x : PV} (h : okV x = true) : pur x = true := by cases x <;> first | rfl | cases h
/-- whether a value is an order of so many -/
def fitsK (k : Str) (r : List PV) (many : Int) : Bool :=
  if k = "put" then match r with | [a, b] => regB a && inR b 0 255 | _ => false
  else if k = "do" then match r with | [o, a, b] => isOne o kOps && (regB a && regB b) | _ => false
  else if k = "if" then match r with | [o, a, b, p] => isOne o kRel && (regB a && regB b) && inR p 0 (many - 1) | _ => false
  else if k = "go" then match r with | [p] => inR p 0 (many - 1) | _ => false
  else if k = "fault" then match r with | [a] => inR a 0 9 | _ => false
  else if k = "end" then r.isEmpty
  else if k = "copy" ∨ k = "load" ∨ k = "store" then match r with | [a, b] => regB a && regB b | _ => false
  else false
def fitsO (many : Int) : PV → Bool
  | .tup (.str k :: r) => fitsK k r many
  | _ => false
theorem any_long (l : List (Str × Int)) (z : Str) (n : Int) : ((l.map fun p => PyData.tuple [.str p.1, .int p.2]).any fun y => PyData.eqv y (.tuple [.str z, .int n])) = l.any fun p => decide (p.1 = z) && decide (p.2 = n) := by
  induction l with
  | nil => rfl
  | cons a l ih =>
    rw [List.map_cons, List.any_cons, List.any_cons, ih]
    congr 1
    simp [PyData.eqv, PyData.eqvAll]
    rfl
theorem inP_long {S : Sto} {Q : PK1} {neg : Bool} {z : Str} {n : Int} (hz : PyData.strOk z = true) : inP neg (.tup [.str z, .int n]) pvLong S Q = Q (.bl (neg ^^ kLong.any fun p => decide (p.1 = z) && decide (p.2 = n))) S := by
  have h1 : dat S (.tup [.str z, .int n]) = some (.tuple [.str z, .int n]) := by simp [dat, datF, hz, allSome]
  have h2 : dat S pvLong = some (.tuple (kLong.map fun p => PyData.tuple [.str p.1, .int p.2])) :=
    dat_tupmap 6 (fun p : Str × Int => PV.tup [.str p.1, .int p.2]) (fun p => PyData.tuple [.str p.1, .int p.2]) kLong fun p hp => by
      have : PyData.strOk p.1 = true := by revert p; decide +kernel
      simp [datF, this, allSome]
  unfold pvLong at h2 ⊢
  simp only [inP, h1, h2, any_long]
def longB (k : Str) (n : Int) : Bool := kLong.any fun p => decide (p.1 = k) && decide (p.2 = n)
theorem fitsK_len {k : Str} {r : List PV} {many : Int} (h : fitsK k r many = true) : longB k ((r.length + 1 : Nat) : Int) = true := by
  unfold fitsK at h
  split at h
  · rename_i e; subst e
    split at h
    · show longB "put" (3 : Nat) = true; decide +kernel
    · cases h
  split at h
  · rename_i e; subst e
    split at h
    · show longB "do" (4 : Nat) = true; decide +kernel
    · cases h
  split at h
  · rename_i e; subst e
    split at h
    · show longB "if" (5 : Nat) = true; decide +kernel
    · cases h
  split at h
  · rename_i e; subst e
    split at h
    · show longB "go" (2 : Nat) = true; decide +kernel
    · cases h
  split at h
  · rename_i e; subst e
    split at h
    · show longB "fault" (2 : Nat) = true; decide +kernel
    · cases h
  split at h
  · rename_i e; subst e
    cases r with
    | nil => show longB "end" (1 : Nat) = true; decide +kernel
    | cons a r => cases h
  split at h
  · rename_i e
    split at h
    · show longB k (3 : Nat) = true
      rcases e with rfl | rfl | rfl <;> decide +kernel
    · cases h
  · cases h
theorem long_cases {k : Str} {n : Nat} (h : longB k (n : Int) = true) : (k = "put" ∧ n = 3) ∨ (k = "copy" ∧ n = 3) ∨ (k = "do" ∧ n = 4) ∨ (k = "load" ∧ n = 3) ∨ (k = "store" ∧ n = 3) ∨ (k = "if" ∧ n = 5) ∨ (k = "go" ∧ n = 2) ∨ (k = "end" ∧ n = 1) ∨ (k = "fault" ∧ n = 2) := by
  unfold longB at h
  rw [List.any_eq_true] at h
  obtain ⟨p, hp, e⟩ := h
  rw [Bool.and_eq_true, decide_eq_true_eq, decide_eq_true_eq] at e
  obtain ⟨e1, e2⟩ := e
  subst e1
  simp only [kLong, List.mem_cons, List.not_mem_nil, or_false] at hp
  rcases hp with rfl | rfl | rfl | rfl | rfl | rfl | rfl | rfl | rfl <;> simp at e2 ⊢ <;> omega
@[simp] def f_fits_order : List PV → Option PV
  | [.int many, v] => if okO v = true then some (.bl (fitsO many v)) else none
  | _ => none
theorem okV_at {ys : List PV} (h : ys.all okV = true) {a : PV} (ha : a ∈ ys) : okV a = true := List.all_eq_true.mp h a ha
theorem fitsO_none {many : Int} {k : Str} {r : List PV} (h : longB k ((r.length + 1 : Nat) : Int) = false) : fitsO many (.tup (.str k :: r)) = false := by
  cases e : fitsO many (.tup (.str k :: r)) with
  | false => rfl
  | true => rw [fitsK_len e] at h; cases h
theorem and_ite {P : Bool → Prop} {a b : Bool} (q : P (a && b)) : if a = true then P b else P a := by
  cases a <;> simpa using q
theorem one_at {x : PV} {l : List Str} {S : Sto} {Q : PK1} (h1 : okV x = true) (h2 : ∀ y ∈ l, PyData.strOk y = true) (q : Q (.bl (isOne x l)) S) : c_is_one_of [x, sts l] S Q := ⟨x, l, rfl, h1, h2, q⟩
theorem ops_ok : ∀ y ∈ kOps, PyData.strOk y = true := by decide +kernel
theorem rel_ok : ∀ y ∈ kRel, PyData.strOk y = true := by decide +kernel
theorem fits_long {many : Int} {y : PV} {r : List PV} (h : ¬ (1 ≤ (y :: r).length ∧ (y :: r).length ≤ 5)) : fitsO many (.tup (y :: r)) = false := by
  cases y with
  | str k =>
    refine fitsO_none ?_
    cases e : longB k ((r.length + 1 : Nat) : Int) with
    | false => rfl
    | true =>
      rw [List.length_cons] at h
      rcases long_cases e with ⟨_, e⟩ | ⟨_, e⟩ | ⟨_, e⟩ | ⟨_, e⟩ | ⟨_, e⟩ | ⟨_, e⟩ | ⟨_, e⟩ | ⟨_, e⟩ | ⟨_, e⟩ <;> omega
  | _ => rfl
theorem out15 {n : Nat} (h : ¬ (1 ≤ n ∧ n ≤ 5)) : (decide ((1 : Int) ≤ (n : Nat)) && decide ((n : Int) ≤ 5)) = false := by
  rw [Bool.and_eq_false_iff, decide_eq_false_iff_not, decide_eq_false_iff_not]; omega
theorem v_fits_order (xs S Q) (h : pc f_fits_order xs S Q) : wSs (pvAt [pvLong, .str "put", .int 255, .str "do", sts kOps, .str "if", sts kRel, .str "go", .str "fault", .int 9]) (conAt [pc f_is_tuple_of, pc f_is_whole, pc f_is_register, pc f_are_registers, c_is_one_of]) a_fits_order (rets Q) (startP 3 xs) S := by
  obtain ⟨v, h, q⟩ := h
  unfold f_fits_order at h
  split at h
  case h_2 => cases h
  split at h
  case isFalse => cases h
  rename_i many x hp
  cases h
  replace q := ret_here q
  cases x with
  | tup ys =>
    by_cases hlen : 1 ≤ ys.length ∧ ys.length ≤ 5
    · cases ys with
      | nil => simp at hlen
      | cons y r =>
        have hy : okV y = true := okV_at hp List.mem_cons_self
        have hr : ∀ a ∈ r, okV a = true := fun a ha => okV_at hp (List.mem_cons_of_mem _ ha)
        cases y with
        | str k =>
          have hk : PyData.strOk k = true := hy
          simp [a_fits_order, pc_eq]
          rw [if_pos (by simp at hlen; omega), inP_long hk]
          show truQ _ (.bl (true ^^ longB k ((r.length : Int) + 1))) S
          rw [show (r.length : Int) + 1 = ((r.length + 1 : Nat) : Int) by omega]
          cases hl : longB k ((r.length + 1 : Nat) : Int) with
          | false =>
            simp
            rw [fitsO_none hl] at q
            exact q
          | true =>
            simp
            rcases long_cases hl with ⟨rfl, hn⟩ | ⟨rfl, hn⟩ | ⟨rfl, hn⟩ | ⟨rfl, hn⟩ | ⟨rfl, hn⟩ | ⟨rfl, hn⟩ | ⟨rfl, hn⟩ | ⟨rfl, hn⟩ | ⟨rfl, hn⟩
            · obtain ⟨a, b, rfl⟩ : ∃ a b, r = [a, b] := by
                match r, hn with
                | [a, b], _ => exact ⟨a, b, rfl⟩
              simp (config := {decide := true}) [okV_pur (hr a (by simp)), okV_pur (hr b (by simp))]
              exact and_ite (P := fun z => ∃ S2, SubS S2 S ∧ Q (PV.bl z) S2) q
            · obtain ⟨a, b, rfl⟩ : ∃ a b, r = [a, b] := by
                match r, hn with
                | [a, b], _ => exact ⟨a, b, rfl⟩
              simp (config := {decide := true}) [okV_pur (hr a (by simp)), okV_pur (hr b (by simp)), cut_from1]
              exact q
            · obtain ⟨o, a, b, rfl⟩ : ∃ o a b, r = [o, a, b] := by
                match r, hn with
                | [o, a, b], _ => exact ⟨o, a, b, rfl⟩
              simp (config := {decide := true}) [okV_pur (hr a (by simp)), okV_pur (hr b (by simp)), show cutP [.str "do", o, a, b] (some 2) none = [a, b] from cut_from _ 2]
              refine one_at (hr o (by simp)) ops_ok ?_
              simp
              exact and_ite (P := fun z => ∃ S2, SubS S2 S ∧ Q (PV.bl z) S2) q
            · obtain ⟨a, b, rfl⟩ : ∃ a b, r = [a, b] := by
                match r, hn with
                | [a, b], _ => exact ⟨a, b, rfl⟩
              simp (config := {decide := true}) [okV_pur (hr a (by simp)), okV_pur (hr b (by simp)), cut_from1]
              exact q
            · obtain ⟨a, b, rfl⟩ : ∃ a b, r = [a, b] := by
                match r, hn with
                | [a, b], _ => exact ⟨a, b, rfl⟩
              simp (config := {decide := true}) [okV_pur (hr a (by simp)), okV_pur (hr b (by simp)), cut_from1]
              exact q
            · obtain ⟨o, a, b, p, rfl⟩ : ∃ o a b p, r = [o, a, b, p] := by
                match r, hn with
                | [o, a, b, p], _ => exact ⟨o, a, b, p, rfl⟩
              simp (config := {decide := true}) [okV_pur (hr a (by simp)), okV_pur (hr b (by simp)), okV_pur (hr p (by simp)), show cutP [.str "if", o, a, b, p] (some 2) (some 4) = [a, b] from cut_ft _ 2 4]
              refine one_at (hr o (by simp)) rel_ok ?_
              simp
              have q2 : ∃ S2, SubS S2 S ∧ Q (.bl (isOne o kRel && (regB a && regB b) && inR p 0 (many - 1))) S2 := q
              cases e1 : isOne o kRel <;> cases e2 : regB a <;> cases e3 : regB b <;> simp [e1, e2, e3] at q2 ⊢ <;> exact q2
            · obtain ⟨p, rfl⟩ : ∃ p, r = [p] := by
                match r, hn with
                | [p], _ => exact ⟨p, rfl⟩
              simp (config := {decide := true}) [okV_pur (hr p (by simp))]
              exact q
            · obtain rfl : r = [] := by
                match r, hn with
                | [], _ => rfl
              simp (config := {decide := true}) [cut_from1]
              exact q
            · obtain ⟨p, rfl⟩ : ∃ p, r = [p] := by
                match r, hn with
                | [p], _ => exact ⟨p, rfl⟩
              simp (config := {decide := true}) [okV_pur (hr p (by simp))]
              exact q
        | _ => simp [okV] at hy <;> (simp [a_fits_order, pc_eq]; rw [if_pos (by simp at hlen; omega)]; exact q)
    · have e : fitsO many (.tup ys) = false := by
        cases ys with
        | nil => rfl
        | cons y r => exact fits_long hlen
      rw [e] at q
      simp [a_fits_order, pc_eq]
      have hn : ¬ ((1 : Int) ≤ (ys.length : Nat) ∧ ((ys.length : Nat) : Int) ≤ 5) := by omega
      simp only [if_neg hn]
      exact q
  | _ => simp [okO] at hp <;> simp [a_fits_order, pc_eq, tupR] <;> simpa [fitsO] using q
/-! ### programs -/
def okP : PV → Bool
  | .tup ys => ys.all okO
  | .ref _ => false
  | .dic _ => false
  | _ => true
def lastB : PV → Bool
  | .tup (.str k :: _) => isOne (.str k) ["go", "end", "fault"]
  | _ => false
def fitsP : PV → Bool
  | .tup ys => decide (1 ≤ ys.length) && decide (ys.length ≤ 60) && ys.all (fitsO ys.length) && (ys.getLast?.map lastB).getD false
  | _ => false
@[simp] def f_fits_program : List PV → Option PV
  | [x] => if okP x = true then some (.bl (fitsP x)) else none
  | _ => none
theorem end_ok : ∀ y ∈ (["go", "end", "fault"] : List Str), PyData.strOk y = true := by decide +kernel
theorem v_fits_program (xs S Q) (h : pc f_fits_program xs S Q) : wSs (pvAt [.int 60, .str "fault", .str "end", .str "go"]) (conAt [pc f_fits_order, pc f_is_tuple_of]) a_fits_program (rets Q) (startP 2 xs) S := by
  obtain ⟨v, h, q⟩ := h
  unfold f_fits_program at h
  split at h
  case h_2 => cases h
  split at h
  case isFalse => cases h
  rename_i x hp
  cases h
  replace q := ret_here q
  cases x with
  | tup ys =>
    simp [a_fits_program, pc_eq]
    by_cases hl : 1 ≤ ys.length ∧ ys.length ≤ 60
    · have hl' : (1 : Int) ≤ (ys.length : Nat) ∧ ((ys.length : Nat) : Int) ≤ 60 := by omega
      rw [if_pos hl']
      refine lf_map0 (fun x => .bl (fitsO ys.length x)) ys (by simp; omega) trivial (fun a ha k hk => ?_) ?_
      · have : okO a = true := List.all_eq_true.mp hp a ha
        simpa [this] using hk
      · rw [all_bl]
        cases e : ys.all (fitsO ys.length) with
        | false =>
          have : fitsP (.tup ys) = false := by simp [fitsP, e]
          rw [this] at q
          simpa using q
        | true =>
          obtain ⟨zs, z, rfl⟩ : ∃ zs z, ys = zs ++ [z] := by
            rcases List.eq_nil_or_concat ys with rfl | ⟨zs, z, rfl⟩
            · simp at hl
            · exact ⟨zs, z, by simp⟩
          have fz : fitsO (zs ++ [z]).length z = true := List.all_eq_true.mp e z (by simp)
          have oz : okO z = true := List.all_eq_true.mp hp z (by simp)
          obtain ⟨k, r, rfl⟩ : ∃ k r, z = .tup (.str k :: r) := by
            cases z with
            | tup w => cases w with
              | nil => cases fz
              | cons a r => cases a <;> first | (cases fz; done) | exact ⟨_, _, rfl⟩
            | _ => cases fz
          have hk : PyData.strOk k = true := okV_at oz List.mem_cons_self
          simp
          rw [show (PV.tup [.str "go", .str "end", .str "fault"]) = sts ["go", "end", "fault"] from rfl, inP_strs end_ok hk]
          have : fitsP (.tup (zs ++ [.tup (.str k :: r)])) = isOne (.str k) ["go", "end", "fault"] := by
            show (decide (1 ≤ (zs ++ [PV.tup (.str k :: r)]).length) && decide ((zs ++ [PV.tup (.str k :: r)]).length ≤ 60) && (zs ++ [PV.tup (.str k :: r)]).all (fitsO (zs ++ [PV.tup (.str k :: r)]).length) && ((zs ++ [PV.tup (.str k :: r)]).getLast?.map lastB).getD false) = _
            rw [e, decide_eq_true hl.1, decide_eq_true hl.2]
            simp [lastB]
          rw [this] at q
          simpa [isOne] using q
    · have hl' : ¬ ((1 : Int) ≤ (ys.length : Nat) ∧ ((ys.length : Nat) : Int) ≤ 60) := by omega
      have : fitsP (.tup ys) = false := by
        simp only [fitsP, Bool.and_eq_false_iff, decide_eq_false_iff_not]; omega
      rw [this] at q
      simp only [if_neg hl']
      exact q
  | _ => simp [okP] at hp <;> simp [a_fits_program, pc_eq, tupR] <;> simpa [fitsP] using q
/-! ### inputs, states -/
def purw : PV → Bool
  | .tup ys => ys.all purs
  | x => pur x
theorem purw_pur {x : PV} (h : purw x = true) : pur x = true := by cases x <;> first | exact h | rfl
def inB (w : Int) : PV → Bool
  | .tup [a, b] => areW w 4 a && areW w 8 b
  | _ => false
@[simp] def f_fits_inputs : List PV → Option PV
  | [.int w, x] => if 0 ≤ w ∧ w ≤ 1000 ∧ purw x = true then some (.bl (inB w x)) else none
  | _ => none
theorem len2 {ys : List PV} (h : (decide ((2 : Int) ≤ (ys.length : Nat)) && decide (((ys.length : Nat) : Int) ≤ 2)) = true) : ∃ a b, ys = [a, b] := by
  match ys, h with
  | [a, b], _ => exact ⟨a, b, rfl⟩
  | [], h => simp at h
  | [_], h => simp at h
  | _ :: _ :: _ :: _, h => simp at h; omega
theorem v_fits_inputs (xs S Q) (h : pc f_fits_inputs xs S Q) : wSs (pvAt [.int 8, .int 4]) (conAt [pc f_are_words, pc f_is_tuple_of]) a_fits_inputs (rets Q) (startP 2 xs) S := by
  obtain ⟨v, h, q⟩ := h
  unfold f_fits_inputs at h
  split at h
  case h_2 => cases h
  split at h
  case isFalse => cases h
  rename_i w x hp
  cases h
  obtain ⟨h1, h2, h3⟩ := hp
  replace q := ret_here q
  cases x with
  | tup ys =>
    cases e : (decide ((2 : Int) ≤ (ys.length : Nat)) && decide (((ys.length : Nat) : Int) ≤ 2)) with
    | true =>
      obtain ⟨a, b, rfl⟩ := len2 e
      have pa : purs a = true := List.all_eq_true.mp h3 a (by simp)
      have pb : purs b = true := List.all_eq_true.mp h3 b (by simp)
      simp [a_fits_inputs, pc_eq, f_are_words, h1, h2, pa, pb]
      exact and_ite (P := fun z => ∃ S2, SubS S2 S ∧ Q (PV.bl z) S2) q
    | false =>
      have : inB w (.tup ys) = false := by
        match ys, e with
        | [], _ => rfl
        | [_], _ => rfl
        | [_, _], e => simp at e
        | _ :: _ :: _ :: _, _ => rfl
      rw [this] at q
      have e' : ¬ ((2 : Int) ≤ (ys.length : Nat) ∧ ((ys.length : Nat) : Int) ≤ 2) := by simpa using e
      simp [a_fits_inputs, pc_eq]
      simp only [if_neg e']
      rw [e]
      exact q
  | _ => simp [purw] at h3 <;> simp [a_fits_inputs, pc_eq, tupR] <;> simpa [inB] using q
end PL.Cm

set_option maxRecDepth 100000
set_option linter.all false
set_option maxHeartbeats 4000000
namespace PL.Cm
open PySem PySem.Spec C00
def stB (w : Int) : PV → Bool
  | .tup [p, a, b] => inR p 0 59 && (areW w 4 a && areW w 8 b)
  | _ => false
@[simp] def f_fits_state : List PV → Option PV
  | [.int w, x] => if 0 ≤ w ∧ w ≤ 1000 ∧ purw x = true then some (.bl (stB w x)) else none
  | _ => none
theorem len3 {ys : List PV} (h : (decide ((3 : Int) ≤ (ys.length : Nat)) && decide (((ys.length : Nat) : Int) ≤ 3)) = true) : ∃ a b c, ys = [a, b, c] := by
  match ys, h with
  | [a, b, c], _ => exact ⟨a, b, c, rfl⟩
  | [], h => simp at h
  | [_], h => simp at h
  | [_, _], h => simp at h
  | _ :: _ :: _ :: _ :: _, h => simp at h; omega
theorem v_fits_state (xs S Q) (h : pc f_fits_state xs S Q) : wSs (pvAt [.int 60]) (conAt [pc f_fits_inputs, pc f_is_whole, pc f_is_tuple_of]) a_fits_state (rets Q) (startP 2 xs) S := by
  obtain ⟨v, h, q⟩ := h
  unfold f_fits_state at h
  split at h
  case h_2 => cases h
  split at h
  case isFalse => cases h
  rename_i w x hp
  cases h
  obtain ⟨h1, h2, h3⟩ := hp
  replace q := ret_here q
  cases x with
  | tup ys =>
    cases e : (decide ((3 : Int) ≤ (ys.length : Nat)) && decide (((ys.length : Nat) : Int) ≤ 3)) with
    | true =>
      obtain ⟨p, a, b, rfl⟩ := len3 e
      have pp : pur p = true := purs_pur (List.all_eq_true.mp h3 p (by simp))
      have pa : purs a = true := List.all_eq_true.mp h3 a (by simp)
      have pb : purs b = true := List.all_eq_true.mp h3 b (by simp)
      have pw : purw (.tup [a, b]) = true := by simp [purw, pa, pb]
      simp [a_fits_state, pc_eq, cut_from1, h1, h2, pp, pw]
      exact and_ite (P := fun z => ∃ S2, SubS S2 S ∧ Q (PV.bl z) S2) q
    | false =>
      have : stB w (.tup ys) = false := by
        match ys, e with
        | [], _ => rfl
        | [_], _ => rfl
        | [_, _], _ => rfl
        | [_, _, _], e => simp at e
        | _ :: _ :: _ :: _ :: _, _ => rfl
      rw [this] at q
      have e' : ¬ ((3 : Int) ≤ (ys.length : Nat) ∧ ((ys.length : Nat) : Int) ≤ 3) := by simpa using e
      simp [a_fits_state, pc_eq]
      simp only [if_neg e']
      rw [e]
      exact q
  | _ => simp [purw] at h3 <;> simp [a_fits_state, pc_eq, tupR] <;> simpa [stB] using q
/-! ### told inputs -/
def entB (w : Int) (x : PV) : Bool := match x with
  | .non => true
  | x => wdB w x
def areE (w many : Int) (x : PV) : Bool := match x with
  | .tup ys => decide ((ys.length : Int) = many) && ys.all (entB w)
  | _ => false
def f_are_entries : List PV → Option PV
  | [.int w, x, .int many] => if 0 ≤ w ∧ w ≤ 1000 ∧ 0 ≤ many ∧ many ≤ 1000 ∧ purs x = true then some (.bl (areE w many x)) else none
  | _ => none
theorem v_are_entries (xs S Q) (h : pc f_are_entries xs S Q) : wSs (pvAt []) (conAt [pc f_fits_word, pc f_is_tuple_of]) a_are_entries (rets Q) (startP 4 xs) S := by
  obtain ⟨v, h, q⟩ := h
  unfold f_are_entries at h
  split at h
  case h_2 => cases h
  split at h
  case isFalse => cases h
  rename_i w x many hp
  cases h
  obtain ⟨h1, h2, h3, h4, h5⟩ := hp
  replace q := ret_here q
  cases x with
  | tup ys =>
    simp [a_are_entries, pc_eq]
    by_cases hl : (ys.length : Int) = many
    · simp [hl]
      refine lf_map0 (fun x => .bl (entB w x)) ys (by simp; omega) trivial (fun a ha k hk => ?_) ?_
      · have : pur a = true := List.all_eq_true.mp h5 a ha
        cases a <;> simp at this <;> simp [h1, h2] <;> exact hk
      · rw [all_bl]
        simpa [areE, hl] using q
    · simp only [areE, hl, decide_false, Bool.false_and] at q
      rw [if_neg (by omega), between hl]
      exact q
  | _ => simp [purs] at h5 <;> simp [a_are_entries, pc_eq, tupR] <;> simpa [areE] using q
def toldB (w : Int) : PV → Bool
  | .tup [a, b] => areE w 4 a && areE w 8 b
  | _ => false
@[simp] def f_fits_told : List PV → Option PV
  | [.int w, x] => if 0 ≤ w ∧ w ≤ 1000 ∧ purw x = true then some (.bl (toldB w x)) else none
  | _ => none
theorem v_fits_told (xs S Q) (h : pc f_fits_told xs S Q) : wSs (pvAt [.int 8, .int 4]) (conAt [pc f_is_tuple_of, pc f_are_entries]) a_fits_told (rets Q) (startP 2 xs) S := by
  obtain ⟨v, h, q⟩ := h
  unfold f_fits_told at h
  split at h
  case h_2 => cases h
  split at h
  case isFalse => cases h
  rename_i w x hp
  cases h
  obtain ⟨h1, h2, h3⟩ := hp
  replace q := ret_here q
  cases x with
  | tup ys =>
    cases e : (decide ((2 : Int) ≤ (ys.length : Nat)) && decide (((ys.length : Nat) : Int) ≤ 2)) with
    | true =>
      obtain ⟨a, b, rfl⟩ := len2 e
      have pa : purs a = true := List.all_eq_true.mp h3 a (by simp)
      have pb : purs b = true := List.all_eq_true.mp h3 b (by simp)
      simp [a_fits_told, pc_eq, f_are_entries, h1, h2, pa, pb]
      exact and_ite (P := fun z => ∃ S2, SubS S2 S ∧ Q (PV.bl z) S2) q
    | false =>
      have : toldB w (.tup ys) = false := by
        match ys, e with
        | [], _ => rfl
        | [_], _ => rfl
        | [_, _], e => simp at e
        | _ :: _ :: _ :: _, _ => rfl
      rw [this] at q
      have e' : ¬ ((2 : Int) ≤ (ys.length : Nat) ∧ ((ys.length : Nat) : Int) ≤ 2) := by simpa using e
      simp [a_fits_told, pc_eq]
      simp only [if_neg e']
      exact q
  | _ => simp [purw] at h3 <;> simp [a_fits_told, pc_eq, tupR] <;> simpa [toldB] using q
/-! ### what is asked -/
theorem v_is_program (xs S Q) (h : pc f_fits_program xs S Q) : wSs (pvAt []) (conAt [pc f_fits_program]) a_is_program (rets Q) (startP 1 xs) S := by
  obtain ⟨v, h, q⟩ := h
  unfold f_fits_program at h
  split at h
  case h_2 => cases h
  split at h
  case isFalse => cases h
  rename_i x hp
  cases h
  simp [a_is_program, pc_eq, hp]
  exact ret_here q
@[simp] def f_are_inputs : List PV → Option PV
  | [.int w, x] => if 1 ≤ w ∧ w ≤ 8 ∧ purw x = true then some (.bl (inB w x)) else none
  | _ => none
theorem v_are_inputs (xs S Q) (h : pc f_are_inputs xs S Q) : wSs (pvAt []) (conAt [pc f_need_width, pc f_fits_inputs]) a_are_inputs (rets Q) (startP 2 xs) S := by
  obtain ⟨v, h, q⟩ := h
  unfold f_are_inputs at h
  split at h
  case h_2 => cases h
  split at h
  case isFalse => cases h
  rename_i w x hp
  cases h
  obtain ⟨h1, h2, h3⟩ := hp
  simp [a_are_inputs, pc_eq, h1, h2, h3]
  rw [if_pos (by omega)]
  exact ret_here q
@[simp] def f_is_state : List PV → Option PV
  | [.int w, x] => if 1 ≤ w ∧ w ≤ 8 ∧ purw x = true then some (.bl (stB w x)) else none
  | _ => none
theorem v_is_state (xs S Q) (h : pc f_is_state xs S Q) : wSs (pvAt []) (conAt [pc f_need_width, pc f_fits_state]) a_is_state (rets Q) (startP 2 xs) S := by
  obtain ⟨v, h, q⟩ := h
  unfold f_is_state at h
  split at h
  case h_2 => cases h
  split at h
  case isFalse => cases h
  rename_i w x hp
  cases h
  obtain ⟨h1, h2, h3⟩ := hp
  simp [a_is_state, pc_eq, h1, h2, h3]
  rw [if_pos (by omega)]
  exact ret_here q
@[simp] def f_are_told_inputs : List PV → Option PV
  | [.int w, x] => if 1 ≤ w ∧ w ≤ 8 ∧ purw x = true then some (.bl (toldB w x)) else none
  | _ => none
theorem v_are_told_inputs (xs S Q) (h : pc f_are_told_inputs xs S Q) : wSs (pvAt []) (conAt [pc f_need_width, pc f_fits_told]) a_are_told_inputs (rets Q) (startP 2 xs) S := by
  obtain ⟨v, h, q⟩ := h
  unfold f_are_told_inputs at h
  split at h
  case h_2 => cases h
  split at h
  case isFalse => cases h
  rename_i w x hp
  cases h
  obtain ⟨h1, h2, h3⟩ := hp
  simp [a_are_told_inputs, pc_eq, h1, h2, h3]
  rw [if_pos (by omega)]
  exact ret_here q
end PL.Cm

set_option maxRecDepth 100000
set_option linter.all false
set_option maxHeartbeats 4000000
namespace PL.Cm
open PySem PySem.Spec C00
/-! cup, roll -/
def CupIs (S : Sto) (c : Addr) : Prop := ∃ a b : Int, S c = some (.lst [.int a, .int b]) ∧ 0 ≤ a ∧ 0 ≤ b ∧ b < 2 ^ 32
def cupS (S : Sto) (c : Addr) (a b : Int) : Sto := updS S c (.lst [.int a, .int b])
/-- the same store but for what the cup holds -/
def Cup (S : Sto) (c : Addr) (S' : Sto) : Prop := ∃ a b : Int, S' = cupS S c a b ∧ 0 ≤ a ∧ 0 ≤ b ∧ b < 2 ^ 32
theorem Cup.is {S S' : Sto} {c : Addr} (u : Cup S c S') : CupIs S' c := by
  obtain ⟨a, b, rfl, h⟩ := u
  exact ⟨a, b, updS_same, h⟩
theorem Cup.trans {S S1 S2 : Sto} {c : Addr} (u : Cup S c S1) (w : Cup S1 c S2) : Cup S c S2 := by
  obtain ⟨a, b, rfl, h⟩ := u
  obtain ⟨a', b', rfl, h'⟩ := w
  exact ⟨a', b', by unfold cupS; rw [updS_updS], h'⟩
theorem Cup.refl {S : Sto} {c : Addr} (h : CupIs S c) : Cup S c S := by
  obtain ⟨a, b, e, h⟩ := h
  refine ⟨a, b, ?_, h⟩
  funext x
  unfold cupS
  by_cases hx : x = c
  · subst hx; rw [updS_same, e]
  · rw [updS_ne hx]
theorem Cup.keep {S S' : Sto} {c p : Addr} (u : Cup S c S') (h : p ≠ c) : S' p = S p := by
  obtain ⟨a, b, rfl, _⟩ := u
  exact updS_ne h
theorem log2_lt {n : Nat} (h : n < 2 ^ 64) : n.log2 < 9000 := by
  by_cases h0 : n = 0
  · subst h0; decide
  · have := (Nat.log2_lt h0).mpr h; omega
def c_cup : Con := fun xs S Q => ∃ (x : PV) (ns : List Int), xs = [x] ∧ itemsP x S = some (ns.map PV.int) ∧ ns.length ≤ 63 ∧ ∀ p S', S p = none → SubS S S' → CupIs S' p → Q (.ref p) S'
def c_roll : Con := fun xs S Q => ∃ c m, xs = [.ref c, .int m] ∧ CupIs S c ∧ 0 < m ∧ m < 2 ^ 64 ∧ ∀ (v : Nat) S', (v : Int) < m → Cup S c S' → Q (.int v) S'
theorem roll_at {c : Addr} {m : Int} {S : Sto} {Q : PK1} (hc : CupIs S c) (h1 : 0 < m) (h2 : m < 2 ^ 64) (q : ∀ (v : Nat) S', (v : Int) < m → Cup S c S' → Q (.int v) S') : c_roll [.ref c, .int m] S Q := ⟨c, m, rfl, hc, h1, h2, q⟩
def c_some : Con := fun xs S Q => ∃ c x ys, xs = [.ref c, x] ∧ (x = .tup ys ∨ x = .rol ys) ∧ ys ≠ [] ∧ ys.length < 2 ^ 60 ∧ CupIs S c ∧ ∀ y ∈ ys, ∀ S', Cup S c S' → Q y S'
theorem some_at {c : Addr} {ys : List PV} {S : Sto} {Q : PK1} (hc : CupIs S c) (h1 : ys ≠ []) (h2 : ys.length < 2 ^ 60) (q : ∀ y ∈ ys, ∀ S', Cup S c S' → Q y S') : c_some [.ref c, .rol ys] S Q := ⟨c, _, ys, rfl, .inr rfl, h1, h2, hc, q⟩
theorem some_atT {c : Addr} {ys : List PV} {S : Sto} {Q : PK1} (hc : CupIs S c) (h1 : ys ≠ []) (h2 : ys.length < 2 ^ 60) (q : ∀ y ∈ ys, ∀ S', Cup S c S' → Q y S') : c_some [.ref c, .tup ys] S Q := ⟨c, _, ys, rfl, .inl rfl, h1, h2, hc, q⟩
theorem v_some (xs S Q) (h : c_some xs S Q) : wSs (pvAt []) (conAt [c_roll]) a_law_some (rets Q) (startP 2 xs) S := by
  obtain ⟨c, x, ys, rfl, hx, h0, hl, hc, q⟩ := h
  have hn : 0 < ys.length := List.length_pos_iff.mpr h0
  rcases hx with rfl | rfl
  all_goals
    simp [a_law_some]
    refine roll_at hc (by omega) (by omega) fun v S' hv u => ?_
    simp only [idxP_tup_atI, idxP_rol_atI]
    rw [atI_of, List.getElem?_eq_getElem (by omega)]
    exact ret_here (q _ (List.getElem_mem _) S' u)
/-! kinds, likeness -/
def srt : PV → Int
  | .non => 0 | .bl _ => 1 | .int _ => 2 | .str _ => 3 | .tup _ => 4 | .rol _ => 5 | .ref _ => 6 | .dic _ => 6
@[simp] def f_sort : List PV → Option PV
  | [x] => if pur x = true then some (.int (srt x)) else none
  | _ => none
theorem v_sort (xs S Q) (h : pc f_sort xs S Q) : wSs (pvAt []) (conAt []) a_law_sort (rets Q) (startP 1 xs) S := by
  obtain ⟨v, h, q⟩ := h
  unfold f_sort at h
  split at h
  case h_2 => cases h
  split at h
  case isFalse => cases h
  rename_i x hp
  cases h
  replace q := ret_here q
  cases x <;> simp at hp <;> simp [a_law_sort] <;> exact q
mutual
/-- the same, kinds too -/
def likeB : PV → PV → Bool
  | .non, .non => true
  | .bl a, .bl b => a == b
  | .int a, .int b => a == b
  | .str a, .str b => decide (a = b)
  | .tup a, .tup b => likeL a b
  | .rol a, .rol b => likeL a b
  | _, _ => false
def likeL : List PV → List PV → Bool
  | [], [] => true
  | x :: xs, y :: ys => likeB x y && likeL xs ys
  | _, _ => false
end
mutual
/-- plain, no deeper than n -/
def pln : Nat → PV → Bool
  | _, .ref _ => false
  | _, .dic _ => false
  | _, .str z => PyData.strOk z
  | n + 1, .tup xs => decide (xs.length ≤ 100000) && plnL n xs
  | n + 1, .rol xs => decide (xs.length ≤ 100000) && plnL n xs
  | 0, .tup _ => false
  | 0, .rol _ => false
  | _, _ => true
def plnL : Nat → List PV → Bool
  | _, [] => true
  | n, x :: xs => pln n x && plnL n xs
end
theorem plnL_at {n : Nat} : ∀ {xs : List PV}, plnL n xs = true → ∀ {x : PV}, x ∈ xs → pln n x = true
  | [], _, x, h => by cases h
  | y :: ys, h, x, hx => by
    unfold plnL at h
    rw [Bool.and_eq_true] at h
    rcases List.mem_cons.mp hx with e | e
    · rw [e]; exact h.1
    · exact plnL_at h.2 e
theorem pln_pur {n : Nat} {x : PV} (h : pln n x = true) : pur x = true := by
  cases x <;> first | rfl | (unfold pln at h; cases h)
def f_like (n : Nat) : List PV → Option PV
  | [x, y] => if pln n x = true ∧ pln n y = true then some (.bl (likeB x y)) else none
  | _ => none
theorem likeL_len {xs ys : List PV} (h : likeL xs ys = true) : xs.length = ys.length := by
  induction xs generalizing ys with
  | nil => cases ys with
    | nil => rfl
    | cons _ _ => simp [likeL] at h
  | cons x xs ih => cases ys with
    | nil => simp [likeL] at h
    | cons y ys => simp only [likeL, Bool.and_eq_true] at h; rw [List.length_cons, List.length_cons, ih h.2]
theorem likeL_zip : ∀ {xs ys : List PV}, xs.length = ys.length → likeL xs ys = (xs.zip ys).all fun p => likeB p.1 p.2
  | [], [], _ => rfl
  | [], _ :: _, h => by simp at h
  | _ :: _, [], h => by simp at h
  | x :: xs, y :: ys, h => by
    rw [List.zip_cons_cons, List.all_cons, likeL, likeL_zip (by simpa using h)]
theorem srt_ne {x y : PV} (h : srt x ≠ srt y) : likeB x y = false := by
  cases x <;> cases y <;> first | rfl | (exact absurd rfl h)
theorem dat_rol (n : Nat) {S : Sto} {xs : List PV} : datF (n + 1) S (.rol xs) = (allSome (xs.map (datF n S))).map .list := rfl
theorem dat_rep (n : Nat) (S : Sto) (k : Nat) : datF (n + 2) S (.rol (List.replicate k (.int 1))) = some (.list (List.replicate k (.int 1))) := by
  have : List.replicate k (PV.int 1) = (List.replicate k (1 : Int)).map PV.int := by simp
  rw [dat_rol, this, List.map_map, allSome_map (datF (n + 1) S ∘ PV.int) PyData.int _ fun a _ => rfl]
  simp
theorem eqP_ones {S : Sto} {Q : PK1} {k : Nat} {neg : Bool} : eqP neg (.rol (List.replicate k (.int 1))) (.rol []) S Q = Q (.bl (neg ^^ decide (k = 0))) S := by
  rw [eqP_at (d := .list (List.replicate k (.int 1))) (e := .list []) (dat_rep 5 S k) rfl]
  congr 3
  cases k with
  | zero => rfl
  | succ k => rfl
theorem in45 {S : Sto} {Q : PK1} {neg : Bool} {i : Int} : inP neg (.int i) (.tup [.int 4, .int 5]) S Q = Q (.bl (neg ^^ (i == 4 || (i == 5 || false)))) S := inP_ints (c := [4, 5])
theorem map_one {α : Type} (l : List α) : (l.map fun _ => PV.int 1) = List.replicate l.length (.int 1) := by
  induction l with
  | nil => rfl
  | cons a l ih => rw [List.map_cons, ih]; rfl
theorem none_left {a b : List PV} (e : a.length = b.length) : decide (((a.zip b).filter fun p => !likeB p.1 p.2).length = 0) = likeL a b := by
  rw [likeL_zip e]
  generalize a.zip b = l
  induction l with
  | nil => rfl
  | cons p l ih =>
    rw [List.filter_cons, List.all_cons]
    cases h : likeB p.1 p.2 with
    | true => simpa using ih
    | false => simp
theorem v_like (n : Nat) (xs S Q) (h : pc (f_like (n + 1)) xs S Q) : wSs (pvAt []) (conAt [pc f_sort, pc (f_like n)]) a_law_like (rets Q) (startP 5 xs) S := by
  obtain ⟨v, h, q⟩ := h
  unfold f_like at h
  split at h
  case h_2 => cases h
  split at h
  case isFalse => cases h
  rename_i x y hp
  cases h
  obtain ⟨hx, hy⟩ := hp
  have px := pln_pur hx
  have py := pln_pur hy
  replace q := ret_here q
  by_cases hs : srt x = srt y
  · have lists : ∀ (a b : List PV), (decide (a.length ≤ 100000) && plnL n a) = true → (decide (b.length ≤ 100000) && plnL n b) = true → (∃ S2, SubS S2 S ∧ Q (PV.bl (likeL a b)) S2) → (a.length : Int) = b.length → ∀ ρ : Nv, ρ.length = 5 →
      lfP (fun x => True) (fun x S k => gP (G.tup [3, 4]) x ρ S fun ρ2 S2 =>
                match ρ2[3]? with
                | some (some x) =>
                  match ρ2[4]? with
                  | some (some x_1) =>
                    match f_like n [x, x_1] with
                    | some v => truQ (fun k_1 S1 => if k_1 = true then k none S1 else k (some (PV.int 1)) S1) v S2
                    | none => False
                  | x => False
                | x => False)
            (fun x S1 => eqP false x (PV.rol []) S1 fun v S1 => ∃ S2, SubS S2 S1 ∧ Q v S2) (zipL a b) [] S := by
      intro a b ha hb q e ρ hρ
      have e : a.length = b.length := by omega
      rw [Bool.and_eq_true, decide_eq_true_eq] at ha hb
      unfold zipL
      refine lf_filter _ (fun p : PV × PV => !likeB p.1 p.2) (fun _ => .int 1) _ (by simp; omega) trivial (fun p hp k hk => ?_) ?_
      · have h1 := plnL_at ha.2 (List.of_mem_zip hp).1
        have h2 := plnL_at hb.2 (List.of_mem_zip hp).2
        match ρ, hρ with
        | [x0, x1, x2, x3, x4], _ =>
        simp [f_like, h1, h2]
        cases hh : likeB p.1 p.2 <;> simp [hh] at hk ⊢ <;> exact hk
      · rw [map_one, eqP_ones, none_left e]
        simpa using q
    cases y with
    | tup b =>
      cases x <;> simp [srt] at hs
      rename_i a
      simp [a_law_like, pc_eq, srt]
      rw [in45]
      simp
      split
      · rename_i e
        exact lists a b hx hy q e _ rfl
      · rename_i e
        have : likeB (.tup a) (.tup b) = false := by
          cases hh : likeB (.tup a) (.tup b) with
          | false => rfl
          | true => exact absurd (by have := likeL_len (show likeL a b = true from hh); omega) e
        rw [this] at q
        have e2 : ((a.length : Int) == b.length) = false := by simpa using e
        rw [e2]; exact q
    | rol b =>
      cases x <;> simp [srt] at hs
      rename_i a
      simp [a_law_like, pc_eq, srt]
      rw [in45]
      simp
      split
      · rename_i e
        exact lists a b hx hy q e _ rfl
      · rename_i e
        have : likeB (.rol a) (.rol b) = false := by
          cases hh : likeB (.rol a) (.rol b) with
          | false => rfl
          | true => exact absurd (by have := likeL_len (show likeL a b = true from hh); omega) e
        rw [this] at q
        have e2 : ((a.length : Int) == b.length) = false := by simpa using e
        rw [e2]; exact q
    | str b =>
      cases x <;> simp [srt] at hs
      simp [a_law_like, pc_eq, srt]
      rw [in45]
      simp
      rw [eqP_str (by unfold pln at hx; exact hx) (by unfold pln at hy; exact hy)]
      simpa [likeB] using q
    | non =>
      cases x <;> simp [srt] at hs
      simp [a_law_like, pc_eq, srt]
      rw [in45]
      exact q
    | ref a => simp at py
    | dic a => simp at py
    | _ => cases x <;> first | (simp at px; done) | (simp [srt] at hs <;> simp [a_law_like, pc_eq, srt] <;> rw [in45] <;> simpa [likeB] using q)
  · simp [a_law_like, pc_eq, px, py, hs]
    rw [srt_ne hs] at q
    exact q
end PL.Cm

set_option maxRecDepth 100000
set_option linter.all false
set_option maxHeartbeats 4000000
namespace PL.Cm
open PySem PySem.Spec C00
theorem cup_fin {S : Sto} {Q : PK1} {x y : Int} (h1 : 0 ≤ x) (h2 : 0 ≤ y) (h3 : y < 2 ^ 32) (q : ∀ p S', S p = none → SubS S S' → CupIs S' p → Q (.ref p) S') : ∀ p, S p = none → ∃ S2, SubS S2 (updS S p (.lst [.int x, .int y])) ∧ Q (.ref p) S2 := fun p hp =>
  ⟨_, SubS.refl _, q p _ hp ((SubS.refl S).fresh hp) ⟨x, y, updS_same, h1, h2, h3⟩⟩
theorem v_cup (xs S Q) (h : c_cup xs S Q) : wSs (pvAt []) (conAt []) a_law_cup (rets Q) (startP 2 xs) S := by
  obtain ⟨x, ns, rfl, hi, h63, q⟩ := h
  have hb : ∀ Q, bltFP .list [x] S Q = Q (.rol (ns.map PV.int)) S := fun Q => by simp only [bltFP, hi]
  simp [a_law_cup, hb]
  refine ⟨by omega, ?_⟩
  obtain ⟨v, hv⟩ : ∃ v : Int, ∀ h, (ns.map PV.int ++ [.int 0])[0]'h = .int v := by
    cases ns with
    | nil => exact ⟨0, fun _ => by simp⟩
    | cons n ns => exact ⟨n, fun _ => by simp⟩
  simp [hv]
  split
  · exact ⟨by decide, cup_fin (by omega) (by omega) (by omega) q⟩
  · exact cup_fin (by omega) (by omega) (by omega) q
theorem v_roll (xs S Q) (h : c_roll xs S Q) : wSs (pvAt []) (conAt []) a_law_roll (rets Q) (startP 4 xs) S := by
  obtain ⟨c, m, rfl, ⟨a, b, hc, ha, hb, hb2⟩, hm, hm2, q⟩ := h
  have q' : ∀ (v : Int) S', 0 ≤ v → v < m → Cup S c S' → Q (.int v) S' := fun v S' h0 h1 u => by
    have := q v.toNat S' (by omega) u
    rwa [Int.toNat_of_nonneg h0] at this
  simp [a_law_roll]
  rw [idxP_lst (v := .int a) hc (by simp)]
  simp
  split
  · rename_i h0
    rw [idxP_lst (v := .int a) hc (by simp)]
    simp
    refine ⟨hm, ?_⟩
    rw [idxP_lst (v := .int a) hc (by simp)]
    simp
    refine ⟨⟨hm, log2_lt (by omega)⟩, ?_⟩
    rw [put_lst (k := 0) hc (ixN_of (by omega) (by simp))]
    exact ret_here (q' _ _ (Int.emod_nonneg _ (by omega)) (Int.emod_lt_of_pos _ hm) ⟨_, b, rfl, Int.ediv_nonneg ha (by omega), hb, hb2⟩)
  · rw [idxP_lst (v := .int b) hc (by simp)]
    simp
    rw [put_lst (k := 1) hc (ixN_of (by omega) (by simp))]
    simp
    generalize hb' : (b * 31051 + 8053) % 2147483549 = b'
    have h1 : 0 ≤ b' := by omega
    have h2 : b' < 2147483587 := by omega
    rw [idxP_lst (v := .int b') updS_same (by simp)]
    rw [idxP_lst (v := .int b') updS_same (by simp)]
    simp
    refine ⟨.inl (by omega), by decide, hm, ?_⟩
    exact ret_here (q' _ _ (Int.emod_nonneg _ (by omega)) (Int.emod_lt_of_pos _ hm) ⟨a, b', rfl, ha, h1, by omega⟩)
/-! widths -/
@[simp] def f_whole : List PV → Option PV
  | [.int w] => if 0 ≤ w ∧ w ≤ 8 then some (.int (2 ^ w.toNat)) else none
  | _ => none
theorem v_whole (xs S Q) (h : pc f_whole xs S Q) : wSs (pvAt []) (conAt []) a_law_whole (rets Q) (startP 1 xs) S := by
  obtain ⟨v, h, q⟩ := h
  unfold f_whole at h
  split at h
  case h_2 => cases h
  split at h
  case isFalse => cases h
  rename_i w hp
  cases h
  replace q := ret_here q
  have : w = 0 ∨ w = 1 ∨ w = 2 ∨ w = 3 ∨ w = 4 ∨ w = 5 ∨ w = 6 ∨ w = 7 ∨ w = 8 := by omega
  simp [a_law_whole]
  rcases this with rfl | rfl | rfl | rfl | rfl | rfl | rfl | rfl | rfl <;> exact q
def c_number : Con := fun xs S Q => ∃ c, xs = [.ref c] ∧ CupIs S c ∧ ∀ (v : Nat) S', v < 256 → Cup S c S' → Q (.int v) S'
theorem v_number (xs S Q) (h : c_number xs S Q) : wSs (pvAt []) (conAt [c_some]) a_law_number (rets Q) (startP 1 xs) S := by
  obtain ⟨c, rfl, hc, q⟩ := h
  simp [a_law_number]
  refine some_at hc (by simp) (by simp) fun y hy S' u => ret_here ?_
  simp only [List.mem_cons, List.not_mem_nil, or_false] at hy
  rcases hy with rfl | rfl | rfl | rfl | rfl | rfl | rfl | rfl | rfl | rfl | rfl | rfl | rfl | rfl | rfl | rfl
  · exact q 0 S' (by decide) u
  · exact q 1 S' (by decide) u
  · exact q 1 S' (by decide) u
  · exact q 2 S' (by decide) u
  · exact q 3 S' (by decide) u
  · exact q 5 S' (by decide) u
  · exact q 6 S' (by decide) u
  · exact q 7 S' (by decide) u
  · exact q 8 S' (by decide) u
  · exact q 11 S' (by decide) u
  · exact q 15 S' (by decide) u
  · exact q 16 S' (by decide) u
  · exact q 31 S' (by decide) u
  · exact q 127 S' (by decide) u
  · exact q 128 S' (by decide) u
  · exact q 255 S' (by decide) u
end PL.Cm

set_option maxRecDepth 100000
set_option linter.all false
set_option maxHeartbeats 4000000
namespace PL.Cm
open PySem PySem.Spec C00
inductive Op where | add | sub | mul | and | or | xor | left | right
  deriving DecidableEq
def Op.str : Op → Str
  | .add => "add" | .sub => "sub" | .mul => "mul" | .and => "and" | .or => "or" | .xor => "xor" | .left => "left" | .right => "right"
inductive Rl where | same | less
  deriving DecidableEq
def Rl.str : Rl → Str
  | .same => "same" | .less => "less"
inductive Ord where
  | put (r n : Nat) | copy (r s : Nat) | op (o : Op) (r s : Nat) | load (r s : Nat) | store (r s : Nat) | ifo (l : Rl) (r s p : Nat) | go (p : Nat) | fin | fault (k : Nat)
  deriving DecidableEq
abbrev iN (n : Nat) : PV := .int (n : Nat)
def Ord.enc : Ord → PV
  | .put r n => .tup [.str "put", iN r, iN n]
  | .copy r s => .tup [.str "copy", iN r, iN s]
  | .op o r s => .tup [.str "do", .str o.str, iN r, iN s]
  | .load r s => .tup [.str "load", iN r, iN s]
  | .store r s => .tup [.str "store", iN r, iN s]
  | .ifo l r s p => .tup [.str "if", .str l.str, iN r, iN s, iN p]
  | .go p => .tup [.str "go", iN p]
  | .fin => .tup [.str "end"]
  | .fault k => .tup [.str "fault", iN k]
/-- an order of a program of so many -/
def Ord.ok (m : Nat) : Ord → Prop
  | .put r n => r < 4 ∧ n < 256
  | .copy r s => r < 4 ∧ s < 4
  | .op _ r s => r < 4 ∧ s < 4
  | .load r s => r < 4 ∧ s < 4
  | .store r s => r < 4 ∧ s < 4
  | .ifo _ r s p => r < 4 ∧ s < 4 ∧ p < m
  | .go p => p < m
  | .fin => True
  | .fault k => k < 10
theorem Ord.ok_mono {m n : Nat} (h : m ≤ n) : ∀ {o : Ord}, o.ok m → o.ok n
  | .put .., k => k | .copy .., k => k | .op .., k => k | .load .., k => k | .store .., k => k
  | .ifo .., k => ⟨k.1, k.2.1, by have := k.2.2; omega⟩ | .go _, k => by have : _ < m := k; show _ < n; omega
  | .fin, k => k | .fault _, k => k
def Ord.last : Ord → Bool
  | .go _ => true | .fin => true | .fault _ => true
  | _ => false
/-- pieces, from a place on -/
def c_pieces : Con := fun xs S Q => ∃ c place, xs = [.ref c, iN place] ∧ CupIs S c ∧ ∀ (l : List Ord) S', l ≠ [] → l.length ≤ 5 → (∀ o ∈ l, o.ok (place + l.length + 1)) → Cup S c S' → Q (.rol (l.map Ord.enc)) S'
theorem ret_ex {S : Sto} {Q : PK1} {v : PV} (q : Q v S) : ∃ S2, SubS S2 S ∧ Q v S2 := ⟨S, SubS.refl S, q⟩
theorem v_pieces (xs S Q) (h : c_pieces xs S Q) : wSs (pvAt []) (conAt [c_roll, c_some, c_number]) a_law_pieces (rets Q) (startP 8 xs) S := by
  obtain ⟨c, place, rfl, hc, q⟩ := h
  simp [a_law_pieces]
  refine roll_at hc (by omega) (by omega) fun r S1 hr u1 => ?_
  refine roll_at u1.is (by omega) (by omega) fun s S2 hs u2 => ?_
  refine roll_at u2.is (by omega) (by omega) fun t S3 ht u3 => ?_
  refine roll_at u3.is (by omega) (by omega) fun way S4 hw u4 => ?_
  have u := ((u1.trans u2).trans u3).trans u4
  clear u1 u2 u3 u4
  simp
  split
  · refine some_at u.is (by simp) (by simp) fun y hy S5 u5 => ?_
    have : ∃ n : Nat, n < 256 ∧ y = iN n := by
      simp only [List.mem_cons, List.not_mem_nil, or_false] at hy
      rcases hy with rfl | rfl | rfl | rfl | rfl | rfl | rfl | rfl
      · exact ⟨0, by decide, rfl⟩
      · exact ⟨3, by decide, rfl⟩
      · exact ⟨4, by decide, rfl⟩
      · exact ⟨5, by decide, rfl⟩
      · exact ⟨6, by decide, rfl⟩
      · exact ⟨7, by decide, rfl⟩
      · exact ⟨13, by decide, rfl⟩
      · exact ⟨15, by decide, rfl⟩
    obtain ⟨n, hn, rfl⟩ := this
    exact ret_ex (q [.put s n, .store r s, .load t s] S5 (by simp) (by simp) (by simp [Ord.ok]; omega) (u.trans u5))
  split
  · refine roll_at u.is (by omega) (by omega) fun k S5 hk u5 => ?_
    simp
    refine roll_at u5.is (by omega) (by omega) fun s2 S6 hs2 u6 => ?_
    exact ret_ex (q [.put s (5 + k), .store r s, .op .add s s2, .store t s] S6 (by simp) (by simp) (by simp [Ord.ok]; omega) ((u.trans u5).trans u6))
  split
  · have tail : ∀ (r s t : Nat) (S4 : Sto), r < 4 → s < 4 → t < 4 → Cup S c S4 → c_some
        [PV.ref c, PV.rol [PV.tup [PV.str (Str.ofString "do"), PV.str (Str.ofString "add"), PV.int t, PV.int r], PV.tup [PV.str (Str.ofString "do"), PV.str (Str.ofString "xor"), PV.int t, PV.int s],
              PV.tup [PV.str (Str.ofString "store"), PV.int t, PV.int r], PV.tup [PV.str (Str.ofString "copy"), PV.int t, PV.int r], PV.tup [PV.str (Str.ofString "load"), PV.int t, PV.int r]]] S4 fun x S1 =>
        ∃ S2, SubS S2 S1 ∧ Q (PV.rol [PV.tup [PV.str (Str.ofString "put"), PV.int s, PV.int 1], PV.tup [PV.str (Str.ofString "if"), PV.str (Str.ofString "less"), PV.int r, PV.int s, PV.int (place + 5)], x,
                PV.tup [PV.str (Str.ofString "do"), PV.str (Str.ofString "sub"), PV.int r, PV.int s], PV.tup [PV.str (Str.ofString "go"), PV.int (place + 1)]]) S2 := by
      intro r s t S4 hr hs ht u
      refine some_at u.is (by simp) (by simp) fun y hy S5 u5 => ?_
      have : ∃ o : Ord, o.ok (place + 5 + 1) ∧ y = o.enc := by
        simp only [List.mem_cons, List.not_mem_nil, or_false] at hy
        rcases hy with rfl | rfl | rfl | rfl | rfl
        · exact ⟨.op .add t r, ⟨ht, hr⟩, rfl⟩
        · exact ⟨.op .xor t s, ⟨ht, hs⟩, rfl⟩
        · exact ⟨.store t r, ⟨ht, hr⟩, rfl⟩
        · exact ⟨.copy t r, ⟨ht, hr⟩, rfl⟩
        · exact ⟨.load t r, ⟨ht, hr⟩, rfl⟩
      obtain ⟨o, ho, rfl⟩ := this
      refine ret_ex (q [.put s 1, .ifo .less r s (place + 5), o, .op .sub r s, .go (place + 1)] S5 (by simp) (by simp) ?_ (u.trans u5))
      intro z hz
      simp only [List.mem_cons, List.not_mem_nil, or_false] at hz
      rcases hz with rfl | rfl | rfl | rfl | rfl
      · exact ⟨hs, by decide⟩
      · exact ⟨hr, hs, by simp⟩
      · exact ho
      · exact ⟨hr, hs⟩
      · show _ < _; simp
    have e1 : intsP [PV.int r, PV.int s, PV.int t] = some [(r : Int), s, t] := rfl
    rw [e1]
    simp
    refine ⟨by have := ssort_len [(r : Int), s, t]; simp at this; omega, ?_⟩
    split
    · refine some_at u.is (by simp) (by simp) fun y hy S5 u5 => ?_
      have : ∃ a b d : Nat, a < 4 ∧ b < 4 ∧ d < 4 ∧ y = .tup [iN a, iN b, iN d] := by
        simp only [List.mem_cons, List.not_mem_nil, or_false] at hy
        rcases hy with rfl | rfl | rfl | rfl | rfl | rfl
        · exact ⟨0, 1, 3, by decide, by decide, by decide, rfl⟩
        · exact ⟨3, 2, 0, by decide, by decide, by decide, rfl⟩
        · exact ⟨2, 3, 1, by decide, by decide, by decide, rfl⟩
        · exact ⟨1, 0, 2, by decide, by decide, by decide, rfl⟩
        · exact ⟨3, 0, 1, by decide, by decide, by decide, rfl⟩
        · exact ⟨0, 3, 2, by decide, by decide, by decide, rfl⟩
      obtain ⟨a, b, d, ha, hb, hd, rfl⟩ := this
      simp
      exact tail a b d S5 ha hb hd (u.trans u5)
    · exact tail r s t S4 (by omega) (by omega) (by omega) u
  split
  · refine some_at u.is (by simp) (by simp) fun y hy S5 u5 => ?_
    have : ∃ o : Op, y = .str o.str := by
      simp only [List.mem_cons, List.not_mem_nil, or_false] at hy
      rcases hy with rfl | rfl | rfl | rfl | rfl | rfl
      · exact ⟨.add, rfl⟩
      · exact ⟨.mul, rfl⟩
      · exact ⟨.xor, rfl⟩
      · exact ⟨.left, rfl⟩
      · exact ⟨.right, rfl⟩
      · exact ⟨.sub, rfl⟩
    obtain ⟨o, rfl⟩ := this
    exact ret_ex (q [.op o r s, .op o r s] S5 (by simp) (by simp) (by simp [Ord.ok]; omega) (u.trans u5))
  split
  · refine ⟨c, rfl, u.is, fun v S5 hv u5 => ?_⟩
    exact ret_ex (q [.ifo .same r s (place + 3), .ifo .less s t (place + 3), .put t v] S5 (by simp) (by simp) (by simp [Ord.ok]; omega) (u.trans u5))
  · exact ret_ex (q [.copy r s, .copy t r] S4 (by simp) (by simp) (by simp [Ord.ok]; omega) u)
end PL.Cm

set_option maxRecDepth 100000
set_option linter.all false
set_option maxHeartbeats 4000000
namespace PL.Cm
open PySem PySem.Spec C00
theorem min_pos {m : Int} {k : Nat} (h : 0 < m) : ∃ n : Nat, min (m - 1) (k : Int) = n ∧ (n : Int) < m := by
  refine ⟨(min (m - 1) (k : Int)).toNat, ?_, ?_⟩ <;> omega
def c_order : Con := fun xs S Q => ∃ c place many, xs = [.ref c, iN place, iN many] ∧ 0 < many ∧ many < 2 ^ 60 ∧ CupIs S c ∧ ∀ (o : Ord) S', o.ok many → Cup S c S' → Q o.enc S'
theorem v_order (xs S Q) (h : c_order xs S Q) : wSs (pvAt []) (conAt [c_roll, c_number, c_some]) a_law_order (rets Q) (startP 7 xs) S := by
  obtain ⟨c, place, many, rfl, h0, h1, hc, q⟩ := h
  simp [a_law_order]
  refine roll_at hc (by omega) (by omega) fun way S1 hw u1 => ?_
  refine roll_at u1.is (by omega) (by omega) fun r S2 hr u2 => ?_
  refine roll_at u2.is (by omega) (by omega) fun s S3 hs u3 => ?_
  refine roll_at u3.is (by omega) (by omega) fun z S4 hz u4 => ?_
  have u := ((u1.trans u2).trans u3).trans u4
  clear u1 u2 u3 u4
  have rest : ∀ (far : Nat) (S4 : Sto), far < many → Cup S c S4 → (if (way : Int) < 2 then
      c_number [PV.ref c] S4 fun x S1 => ∃ S2, SubS S2 S1 ∧ Q (PV.tup [PV.str (Str.ofString "put"), PV.int r, x]) S2
    else if (way : Int) < 6 then
        c_some [PV.ref c, PV.rol [PV.str (Str.ofString "add"), PV.str (Str.ofString "sub"), PV.str (Str.ofString "mul"), PV.str (Str.ofString "and"), PV.str (Str.ofString "or"), PV.str (Str.ofString "xor"), PV.str (Str.ofString "left"), PV.str (Str.ofString "right"), PV.str (Str.ofString "add"), PV.str (Str.ofString "sub")]] S4
          fun x S1 => ∃ S2, SubS S2 S1 ∧ Q (PV.tup [PV.str (Str.ofString "do"), x, PV.int r, PV.int s]) S2
      else if (way : Int) < 9 then
          c_some [PV.ref c, PV.rol [PV.str (Str.ofString "same"), PV.str (Str.ofString "less"), PV.str (Str.ofString "less")]] S4 fun x S1 => ∃ S2, SubS S2 S1 ∧ Q (PV.tup [PV.str (Str.ofString "if"), x, PV.int r, PV.int s, PV.int far]) S2
        else if (way : Int) < 12 then
            c_some [PV.ref c, PV.rol [PV.tup [PV.str (Str.ofString "copy"), PV.int r, PV.int s], PV.tup [PV.str (Str.ofString "load"), PV.int r, PV.int s], PV.tup [PV.str (Str.ofString "store"), PV.int r, PV.int s]]] S4 fun v S1 => ∃ S2, SubS S2 S1 ∧ Q v S2
          else
            c_roll [PV.ref c, PV.int 10] S4 fun x S1 =>
              c_some [PV.ref c, PV.rol [PV.tup [PV.str (Str.ofString "go"), PV.int far], PV.tup [PV.str (Str.ofString "fault"), x], PV.tup [PV.str (Str.ofString "put"), PV.int r, PV.int 1], PV.tup [PV.str (Str.ofString "do"), PV.str (Str.ofString "sub"), PV.int r, PV.int s]]] S1
                fun v S1 => ∃ S2, SubS S2 S1 ∧ Q v S2) := by
    intro far S4 hf u
    split
    · exact ⟨c, rfl, u.is, fun v S5 hv u5 => ret_ex (q (.put r v) S5 (by simp [Ord.ok]; omega) (u.trans u5))⟩
    split
    · refine some_at u.is (by simp) (by simp) fun y hy S5 u5 => ?_
      have : ∃ o : Op, y = .str o.str := by
        simp only [List.mem_cons, List.not_mem_nil, or_false] at hy
        rcases hy with rfl | rfl | rfl | rfl | rfl | rfl | rfl | rfl | rfl | rfl <;>
          first | exact ⟨.add, rfl⟩ | exact ⟨.sub, rfl⟩ | exact ⟨.mul, rfl⟩ | exact ⟨.and, rfl⟩ | exact ⟨.or, rfl⟩ | exact ⟨.xor, rfl⟩ | exact ⟨.left, rfl⟩ | exact ⟨.right, rfl⟩
      obtain ⟨o, rfl⟩ := this
      exact ret_ex (q (.op o r s) S5 (by simp [Ord.ok]; omega) (u.trans u5))
    split
    · refine some_at u.is (by simp) (by simp) fun y hy S5 u5 => ?_
      have : ∃ o : Rl, y = .str o.str := by
        simp only [List.mem_cons, List.not_mem_nil, or_false] at hy
        rcases hy with rfl | rfl | rfl <;> first | exact ⟨.same, rfl⟩ | exact ⟨.less, rfl⟩
      obtain ⟨o, rfl⟩ := this
      exact ret_ex (q (.ifo o r s far) S5 (by simp [Ord.ok]; omega) (u.trans u5))
    split
    · refine some_at u.is (by simp) (by simp) fun y hy S5 u5 => ?_
      simp only [List.mem_cons, List.not_mem_nil, or_false] at hy
      rcases hy with rfl | rfl | rfl
      · exact ret_ex (q (.copy r s) S5 (by simp [Ord.ok]; omega) (u.trans u5))
      · exact ret_ex (q (.load r s) S5 (by simp [Ord.ok]; omega) (u.trans u5))
      · exact ret_ex (q (.store r s) S5 (by simp [Ord.ok]; omega) (u.trans u5))
    · refine roll_at u.is (by omega) (by omega) fun k S5 hk u5 => ?_
      refine some_at u5.is (by simp) (by simp) fun y hy S6 u6 => ?_
      have u := (u.trans u5).trans u6
      simp only [List.mem_cons, List.not_mem_nil, or_false] at hy
      rcases hy with rfl | rfl | rfl | rfl
      · exact ret_ex (q (.go far) S6 (by simp [Ord.ok]; omega) u)
      · exact ret_ex (q (.fault k) S6 (by simp [Ord.ok]; omega) u)
      · exact ret_ex (q (.put r 1) S6 (by simp [Ord.ok]; omega) u)
      · exact ret_ex (q (.op .sub r s) S6 (by simp [Ord.ok]; omega) u)
  simp
  split
  · refine roll_at u.is (by omega) (by omega) fun far S5 hf u5 => ?_
    exact rest far S5 (by omega) (u.trans u5)
  · refine roll_at u.is (by omega) (by omega) fun k S5 hk u5 => ?_
    simp
    obtain ⟨n, e, hn⟩ := min_pos (m := (many : Nat)) (k := place + 1 + k) (by omega)
    rw [show (place : Int) + 1 + k = ((place + 1 + k : Nat) : Int) by omega, e]
    exact rest n S5 (by omega) (u.trans u5)
/-! ### programs -/
def Ord.dt : Ord → PyData
  | .put r n => .tuple [.str "put", .int r, .int n]
  | .copy r s => .tuple [.str "copy", .int r, .int s]
  | .op o r s => .tuple [.str "do", .str o.str, .int r, .int s]
  | .load r s => .tuple [.str "load", .int r, .int s]
  | .store r s => .tuple [.str "store", .int r, .int s]
  | .ifo l r s p => .tuple [.str "if", .str l.str, .int r, .int s, .int p]
  | .go p => .tuple [.str "go", .int p]
  | .fin => .tuple [.str "end"]
  | .fault k => .tuple [.str "fault", .int k]
@[simp] theorem op_ok (o : Op) : PyData.strOk o.str = true := by cases o <;> decide +kernel
@[simp] theorem rl_ok (o : Rl) : PyData.strOk o.str = true := by cases o <;> decide +kernel
theorem dat_ord (n : Nat) {S : Sto} (o : Ord) : datF (n + 2) S o.enc = some o.dt := by
  cases o <;> simp [Ord.enc, Ord.dt, datF, allSome]
theorem dat_ords (n : Nat) {S : Sto} (l : List Ord) : datF (n + 3) S (.rol (l.map Ord.enc)) = some (.list (l.map Ord.dt)) := by
  rw [dat_rol, List.map_map, allSome_map (datF (n + 2) S ∘ Ord.enc) Ord.dt l fun a _ => dat_ord n a]; rfl
theorem eqP_nil {S : Sto} {Q : PK1} {neg : Bool} {xs : List PV} {ds : List PyData} (h : dat S (.rol xs) = some (.list ds)) : eqP neg (.rol xs) (.rol []) S Q = Q (.bl (neg ^^ xs.isEmpty)) S := by
  rw [eqP_at h (e := .list []) rfl]
  have hl : ds.isEmpty = xs.isEmpty := by
    have h : (allSome (xs.map (datF 6 S))).map PyData.list = some (.list ds) := h
    cases xs with
    | nil => simp [allSome] at h; subst h; rfl
    | cons x xs =>
      cases e : allSome (List.map (datF 6 S) (x :: xs)) with
      | none => rw [e] at h; cases h
      | some ys =>
        rw [e] at h; simp at h; subst h
        obtain ⟨_, _, _, _, rfl⟩ := allSome_cons e
        rfl
  rw [← hl]
  cases ds <;> rfl
/-- a drawn program -/
structure Prog (p : List Ord) (m : Nat) : Prop where
  one : 1 ≤ p.length
  le : p.length ≤ m
  ok : ∀ o ∈ p, o.ok p.length
  last : ∃ q o, p = q ++ [o] ∧ o.last = true
abbrev encP (p : List Ord) : PV := .tup (p.map Ord.enc)
def c_program : Con := fun xs S Q => ∃ c most, xs = [.ref c, iN most] ∧ 1 ≤ most ∧ most ≤ 1000 ∧ CupIs S c ∧ ∀ p S', Prog p most → Cup S c S' → Q (encP p) S'
theorem v_program (xs S Q) (h : c_program xs S Q) : wSs (pvAt []) (conAt [c_roll, c_pieces, c_order, c_some]) a_law_program (rets Q) (startP 5 xs) S := by
  obtain ⟨c, most, rfl, h1, h2, hc, q⟩ := h
  simp [a_law_program]
  refine roll_at hc (by omega) (by omega) fun mm S1 hm u1 => ?_
  simp
  obtain ⟨many, hmany⟩ : ∃ many : Nat, many = mm + 1 := ⟨_, rfl⟩
  have e : (1 : Int) + (mm : Nat) = (many : Nat) := by omega
  rw [e]
  refine ⟨many + 1, wh_by (fun m ρ S2 => Cup S c S2 ∧ ∃ (l : List Ord) (pc : Option PV), ρ = [some (.ref c), some (iN most), some (iN many), some (.rol (l.map Ord.enc)), pc] ∧ (∀ o ∈ l, o.ok many) ∧ l.length + 1 ≤ many ∧ m = many - l.length) ?_ _ many _ _ (by omega) ⟨u1, [], none, rfl, by simp, by simp; omega, by simp⟩⟩
  rintro m ρ S2 k ⟨u2, l, pc, rfl, hok, hl, rfl⟩ next
  simp
  split
  · rename_i hlt
    have step : ∀ (pz : List Ord) (S3 : Sto), Cup S c S3 → pz ≠ [] → l.length + pz.length + 1 ≤ many → (∀ o ∈ pz, o.ok many) →
        ∃ S', SubS S' S3 ∧ k [some (PV.ref c), some (PV.int most), some (PV.int many), some (PV.rol (l.map Ord.enc ++ pz.map Ord.enc)), some (.rol (pz.map Ord.enc))] S' := by
      intro pz S3 u3 hz hl2 hk
      have : 0 < pz.length := List.length_pos_iff.mpr hz
      refine ⟨S3, SubS.refl _, next (many - (l ++ pz).length) _ S3 ?_ ⟨u3, l ++ pz, some (.rol (pz.map Ord.enc)), by simp, ?_, by simp; omega, rfl⟩⟩
      · simp; omega
      · intro o ho
        rcases List.mem_append.mp ho with ho | ho
        · exact hok o ho
        · exact hk o ho
    have one : ∀ (S3 : Sto), Cup S c S3 → c_order [PV.ref c, PV.int l.length, PV.int many] S3 fun x S1 =>
        (l.map Ord.enc).length + [x].length ≤ sizeLine ∧ ∃ S', SubS S' S1 ∧ k [some (PV.ref c), some (PV.int most), some (PV.int many), some (PV.rol (l.map Ord.enc ++ [x])), some (PV.rol [x])] S' := by
      intro S3 u3
      refine ⟨c, l.length, many, rfl, by omega, by omega, u3.is, fun o S4 ho u4 => ⟨by simp; omega, ?_⟩⟩
      exact step [o] S4 (u3.trans u4) (by simp) (by simp; omega) (by simpa using ho)
    refine roll_at u2.is (by omega) (by omega) fun z S3 hz u3 => ?_
    have u3 := u2.trans u3
    simp
    split
    · refine ⟨c, l.length, rfl, u3.is, fun pz S4 z1 z2 z3 u4 => ?_⟩
      have u4 := u3.trans u4
      simp
      rw [eqP_nil (dat_ords 4 pz)]
      have : (pz.map Ord.enc).isEmpty = false := by cases pz <;> simp at z1 ⊢
      rw [this]
      simp
      split
      · rename_i hgt
        have := one S4 u4
        simpa using this
      · rename_i hgt
        refine ⟨by omega, ?_⟩
        exact step pz S4 u4 z1 (by omega) fun o ho => Ord.ok_mono (by omega) (z3 o ho)
    · rw [eqP_nil (xs := []) (ds := []) rfl]
      have := one S3 u3
      simpa using this
  · rename_i hlt
    have hl3 : l.length + 1 = many := by omega
    refine roll_at u2.is (by omega) (by omega) fun z S3 hz u3 => ?_
    have u3 := u2.trans u3
    refine some_at u3.is (by simp) (by simp) fun y hy S4 u4 => ?_
    have : ∃ o : Ord, o.last = true ∧ o.ok many ∧ y = o.enc := by
      simp only [List.mem_cons, List.not_mem_nil, or_false] at hy
      rcases hy with rfl | rfl | rfl
      · exact ⟨.fin, rfl, trivial, rfl⟩
      · exact ⟨.fin, rfl, trivial, rfl⟩
      · exact ⟨.fault z, rfl, by show _ < _; omega, rfl⟩
    obtain ⟨o, ho, hk, rfl⟩ := this
    refine ⟨by omega, ?_⟩
    have := ret_ex (q (l ++ [o]) S4 ⟨by simp, by simp; omega, fun x hx => ?_, l, o, rfl, ho⟩ (u3.trans u4))
    · simpa [encP] using this
    · rw [List.length_append, List.length_singleton, hl3]
      rcases List.mem_append.mp hx with hx | hx
      · exact hok x hx
      · simp at hx; subst hx; exact hk
/-! ### likeness, by depth -/
def c_like : Nat → Con
  | 0 => fun _ _ _ => False
  | n + 1 => pc (f_like n)
theorem v_like0 (xs S Q) (h : pc (f_like 0) xs S Q) : wSs (pvAt []) (conAt [pc f_sort, c_like 0]) a_law_like (rets Q) (startP 5 xs) S := by
  obtain ⟨v, h, q⟩ := h
  unfold f_like at h
  split at h
  case h_2 => cases h
  split at h
  case isFalse => cases h
  rename_i x y hp
  cases h
  obtain ⟨hx, hy⟩ := hp
  have px := pln_pur hx
  have py := pln_pur hy
  replace q := ret_here q
  by_cases hs : srt x = srt y
  · cases y with
    | tup b => simp [pln] at hy
    | rol b => simp [pln] at hy
    | str b =>
      cases x <;> simp [srt] at hs
      simp [a_law_like, pc_eq, srt]
      rw [in45]
      simp
      rw [eqP_str (by unfold pln at hx; exact hx) (by unfold pln at hy; exact hy)]
      simpa [likeB] using q
    | non =>
      cases x <;> simp [srt] at hs
      simp [a_law_like, pc_eq, srt]
      rw [in45]
      exact q
    | ref a => simp at py
    | dic a => simp at py
    | _ => cases x <;> first | (simp at px; done) | (simp [srt] at hs <;> simp [a_law_like, pc_eq, srt] <;> rw [in45] <;> simpa [likeB] using q)
  · simp [a_law_like, pc_eq, px, py, hs]
    rw [srt_ne hs] at q
    exact q
theorem v_likeN (n : Nat) (xs S Q) (h : c_like (n + 1) xs S Q) : wSs (pvAt []) (conAt [pc f_sort, c_like n]) a_law_like (rets Q) (startP 5 xs) S := by
  cases n with
  | zero => exact v_like0 xs S Q h
  | succ n => exact v_like n xs S Q h
theorem like_at {n : Nat} {x y : PV} {S : Sto} {Q : PK1} (hx : pln n x = true) (hy : pln n y = true) (q : Q (.bl (likeB x y)) S) : pc (f_like n) [x, y] S Q :=
  ⟨_, by simp only [f_like, hx, hy, and_self, if_true], q⟩
end PL.Cm

set_option maxRecDepth 100000
set_option linter.all false
set_option maxHeartbeats 4000000
namespace PL.Cm
open PySem PySem.Spec C00
theorem wSs_append {κ : Nat → PV} {Γ : Nat → Con} : ∀ (a b : List Sm) (D : PEnds) (ρ : Nv) (S : Sto), wSs κ Γ (a ++ b) D ρ S = wSs κ Γ a { D with nx := fun ρ S => wSs κ Γ b D ρ S } ρ S
  | [], b, D, ρ, S => by simp
  | s :: a, b, D, ρ, S => by
    simp only [List.cons_append, wSs]
    congr 1
    funext
    simp only [wSs_append a b]
theorem cut_first {κ : Nat → PV} {Γ : Nat → Con} {l : List Sm} (n : Nat) {D : PEnds} {ρ : Nv} {S : Sto} (h : wSs κ Γ (l.take n) { D with nx := fun ρ S => wSs κ Γ (l.drop n) D ρ S } ρ S) : wSs κ Γ l D ρ S := by
  rw [← List.take_append_drop n l, wSs_append]; exact h
theorem cut_at {κ : Nat → PV} {Γ : Nat → Con} {l b : List Sm} (n : Nat) {D : PEnds} {ρ : Nv} {S : Sto} (hb : l.drop n = b) (h : wSs κ Γ (l.take n) { D with nx := fun ρ S => wSs κ Γ b D ρ S } ρ S) : wSs κ Γ l D ρ S := by
  subst hb; exact cut_first n h
@[simp] theorem cutT1 {xs : List PV} : cutP xs none (some 1) = xs.take 1 := cut_to xs 1
@[simp] theorem cutT2 {xs : List PV} : cutP xs none (some 2) = xs.take 2 := cut_to xs 2
@[simp] theorem cutT3 {xs : List PV} : cutP xs none (some 3) = xs.take 3 := cut_to xs 3
@[simp] theorem cutT4 {xs : List PV} : cutP xs none (some 4) = xs.take 4 := cut_to xs 4
@[simp] theorem cutF1 {xs : List PV} : cutP xs (some 1) none = xs.drop 1 := cut_from xs 1
@[simp] theorem cutF2 {xs : List PV} : cutP xs (some 2) none = xs.drop 2 := cut_from xs 2
@[simp] theorem cutF3 {xs : List PV} : cutP xs (some 3) none = xs.drop 3 := cut_from xs 3
@[simp] theorem cutF4 {xs : List PV} : cutP xs (some 4) none = xs.drop 4 := cut_from xs 4
@[simp] theorem cutTN {xs : List PV} {n : Nat} : cutP xs none (some (n : Int)) = xs.take n := cut_to xs n
@[simp] theorem cutFN {xs : List PV} {n : Nat} : cutP xs (some (n : Int)) none = xs.drop n := cut_from xs n
@[simp] theorem cutFN1 {xs : List PV} {n : Nat} : cutP xs (some ((n : Int) + 1)) none = xs.drop (n + 1) := cut_from xs (n + 1)
@[simp] theorem cut12 {xs : List PV} : cutP xs (some 1) (some 2) = (xs.drop 1).take 1 := cut_ft xs 1 2
@[simp] theorem cut13 {xs : List PV} : cutP xs (some 1) (some 3) = (xs.drop 1).take 2 := cut_ft xs 1 3
@[simp] theorem cut24 {xs : List PV} : cutP xs (some 2) (some 4) = (xs.drop 2).take 2 := cut_ft xs 2 4
@[simp] theorem cutM1 {xs : List PV} : cutP xs none (some (-1)) = xs.dropLast := by
  unfold cutP
  have e : HT.sIx xs.length xs.length (some (-1)) = xs.length - 1 := by
    unfold HT.sIx
    simp
    omega
  rw [e]
  show (xs.drop 0).take (xs.length - 1 - 0) = _
  rw [List.drop_zero, Nat.sub_zero, List.dropLast_eq_take]
theorem inP_two {S : Sto} {Q : PK1} {neg : Bool} {a b z : Str} (ha : PyData.strOk a = true) (hb : PyData.strOk b = true) (hz : PyData.strOk z = true) : inP neg (.str z) (.tup [.str a, .str b]) S Q = Q (.bl (neg ^^ (decide (a = z) || (decide (b = z) || false)))) S :=
  inP_strs (l := [a, b]) (by simp [ha, hb]) hz
theorem one_op (o : Op) : isOne (.str o.str) kOps = true := by cases o <;> decide +kernel
theorem one_rl (o : Rl) : isOne (.str o.str) kRel = true := by cases o <;> decide +kernel
theorem pln_dat (n : Nat) (S : Sto) : ∀ x, pln n x = true → ∃ d, datF (n + 1) S x = some d := by
  induction n with
  | zero =>
    intro x h
    cases x <;> simp [pln] at h <;> simp [datF, h]
  | succ n ih =>
    have all : ∀ xs : List PV, plnL n xs = true → ∃ ds, allSome (xs.map (datF (n + 1) S)) = some ds := by
      intro xs
      induction xs with
      | nil => intro _; exact ⟨[], rfl⟩
      | cons x xs ihx =>
        intro h
        unfold plnL at h
        rw [Bool.and_eq_true] at h
        obtain ⟨d, e⟩ := ih x h.1
        obtain ⟨ds, e'⟩ := ihx h.2
        exact ⟨d :: ds, by simp [allSome, e, e']⟩
    intro x h
    cases x with
    | tup xs =>
      simp [pln] at h
      obtain ⟨ds, e⟩ := all xs h.2
      exact ⟨.tuple ds, by rw [dat_tup, e]; rfl⟩
    | rol xs =>
      simp [pln] at h
      obtain ⟨ds, e⟩ := all xs h.2
      exact ⟨.list ds, by rw [dat_rol, e]; rfl⟩
    | _ => simp [pln] at h <;> simp [datF, h]
theorem plnL_of {n : Nat} : ∀ {xs : List PV}, (∀ x ∈ xs, pln n x = true) → plnL n xs = true
  | [], _ => by simp [plnL]
  | x :: xs, h => by
    unfold plnL
    rw [Bool.and_eq_true]
    exact ⟨h x List.mem_cons_self, plnL_of fun y hy => h y (List.mem_cons_of_mem _ hy)⟩
theorem eqP_empty {S : Sto} {Q : PK1} {neg : Bool} {xs : List PV} (h : ∀ x ∈ xs, pln 5 x = true) : eqP neg (.rol xs) (.rol []) S Q = Q (.bl (neg ^^ xs.isEmpty)) S := by
  have all : ∀ xs : List PV, (∀ x ∈ xs, pln 5 x = true) → ∃ ds, allSome (xs.map (datF 6 S)) = some ds := by
    intro xs
    induction xs with
    | nil => intro _; exact ⟨[], rfl⟩
    | cons x xs ihx =>
      intro h
      obtain ⟨d, e⟩ := pln_dat 5 S x (h x List.mem_cons_self)
      obtain ⟨ds, e'⟩ := ihx fun y hy => h y (List.mem_cons_of_mem _ hy)
      exact ⟨d :: ds, by simp [allSome, e, e']⟩
  obtain ⟨ds, e⟩ := all xs h
  exact eqP_nil (ds := ds) (by show datF 7 S _ = _; rw [dat_rol, e]; rfl)
theorem pln_up {x : PV} (h : pln 0 x = true) (n : Nat) : pln n x = true := by
  cases n with
  | zero => exact h
  | succ n => cases x <;> simp [pln] at h ⊢ <;> exact h
theorem lf_filter0 {S : Sto} {Q : PK1} {Gd : Sto → Prop} {body : PV → Sto → (Option PV → Sto → Prop) → Prop} (t : PV → Bool) (l : List PV) (hl : l.length ≤ sizeLine) (hg : Gd S)
    (hb : ∀ a ∈ l, ∀ k : Option PV → Sto → Prop, k (if t a then some a else none) S → body a S k) (hq : Q (.rol (l.filter t)) S) : lfP Gd body Q l [] S := by
  have := lf_filter (g := id) t id l hl hg hb (by simpa using hq)
  simpa using this
theorem reg_nat {n : Nat} (h : n < 4) : regB (iN n) = true := by simp [regB, inR]; omega
theorem inR_nat {n : Nat} {hi : Int} (h : (n : Int) ≤ hi) : inR (iN n) 0 hi = true := by simp [inR]; omega
theorem fits_enc {m : Nat} {o : Ord} (h : o.ok m) : fitsO m o.enc = true := by
  cases o with
  | put r n => show (regB (iN r) && inR (iN n) 0 255) = true; rw [reg_nat h.1, inR_nat (by have := h.2; omega)]; rfl
  | copy r s => show (regB (iN r) && regB (iN s)) = true; rw [reg_nat h.1, reg_nat h.2]; rfl
  | op o r s => show (isOne (.str o.str) kOps && (regB (iN r) && regB (iN s))) = true; rw [reg_nat h.1, reg_nat h.2, one_op]; rfl
  | load r s => show (regB (iN r) && regB (iN s)) = true; rw [reg_nat h.1, reg_nat h.2]; rfl
  | store r s => show (regB (iN r) && regB (iN s)) = true; rw [reg_nat h.1, reg_nat h.2]; rfl
  | ifo l r s p => show (isOne (.str l.str) kRel && (regB (iN r) && regB (iN s)) && inR (iN p) 0 ((m : Int) - 1)) = true; rw [reg_nat h.1, reg_nat h.2.1, one_rl, inR_nat (by have := h.2.2; omega)]; rfl
  | go p => show inR (iN p) 0 ((m : Int) - 1) = true; exact inR_nat (by have : p < m := h; omega)
  | fin => rfl
  | fault k => show inR (iN k) 0 9 = true; exact inR_nat (by have : k < 10 := h; omega)
theorem okO_enc (o : Ord) : okO o.enc = true := by
  cases o <;> simp [Ord.enc, okO, okV]
theorem last_enc {o : Ord} (h : o.last = true) : lastB o.enc = true := by
  cases o <;> simp [Ord.last] at h <;> simp (config := {decide := true}) [Ord.enc, lastB, isOne]
section
variable {p : List Ord} {m : Nat}
theorem Prog.fits (h : Prog p m) (hm : m ≤ 60) : fitsP (encP p) = true := by
  obtain ⟨q, o, e, ho⟩ := h.last
  have hall : (p.map Ord.enc).all (fitsO (p.map Ord.enc).length) = true := by
    rw [List.all_eq_true]
    intro v hv
    obtain ⟨x, hx, rfl⟩ := List.mem_map.mp hv
    rw [List.length_map]
    exact fits_enc (h.ok x hx)
  show (decide (1 ≤ (p.map Ord.enc).length) && decide ((p.map Ord.enc).length ≤ 60) && (p.map Ord.enc).all (fitsO (p.map Ord.enc).length) && ((p.map Ord.enc).getLast?.map lastB).getD false) = true
  rw [hall]
  have h1 := h.one
  have h2 := h.le
  have hl : (p.map Ord.enc).getLast? = some o.enc := by rw [e]; simp
  rw [hl]
  simp [last_enc ho]
  omega
theorem okP_enc : okP (encP p) = true := by
  show (p.map Ord.enc).all okO = true
  rw [List.all_eq_true]
  intro v hv
  obtain ⟨x, hx, rfl⟩ := List.mem_map.mp hv
  exact okO_enc x
end
theorem prog_at {x : PV} {S : Sto} {Q : PK1} {b : Bool} (h : okP x = true) (e : fitsP x = b) (q : Q (.bl b) S) : pc f_fits_program [x] S Q :=
  ⟨.bl b, by simp [h, e], q⟩
theorem like_bl (a : Bool) : likeB (.bl a) (.bl a) = true := by cases a <;> rfl
theorem foP_id {Gd : Sto → Prop} {body : PV → Nv → Sto → (Nv → Sto → Prop) → Prop} {Q : Nv → Sto → Prop} (Iv : List PV → Nv → Sto → Prop) (l : List PV) (ρ : Nv) (S : Sto) (h0 : Iv [] ρ S) (hg : ∀ pre ρ S, Iv pre ρ S → Gd S)
    (hs : ∀ pre a post ρ S (k : Nv → Sto → Prop), l = pre ++ a :: post → Iv pre ρ S → (∀ ρ2 S3, Iv (pre ++ [a]) ρ2 S3 → k ρ2 S3) → body a ρ S fun ρ2 S2 => ∃ S3, SubS S3 S2 ∧ k ρ2 S3) (hd : ∀ ρ S, Iv l ρ S → Q ρ S) : foP Gd body Q l ρ S := by
  have := fo_by (g := id) (body := body) (Gd := Gd) (Q := Q) Iv l l [] rfl ρ S h0 hg hs hd
  simpa using this
theorem fo_map {Gd : Sto → Prop} {body : PV → Nv → Sto → (Nv → Sto → Prop) → Prop} {Q : Nv → Sto → Prop} {α : Type} (g : α → PV) (Iv : List α → Nv → Sto → Prop) (l : List α) (ρ : Nv) (S : Sto) (h0 : Iv [] ρ S) (hg : ∀ pre ρ S, Iv pre ρ S → Gd S)
    (hs : ∀ pre a post ρ S (k : Nv → Sto → Prop), l = pre ++ a :: post → Iv pre ρ S → (∀ ρ2 S3, Iv (pre ++ [a]) ρ2 S3 → k ρ2 S3) → body (g a) ρ S fun ρ2 S2 => ∃ S3, SubS S3 S2 ∧ k ρ2 S3) (hd : ∀ ρ S, Iv l ρ S → Q ρ S) : foP Gd body Q (l.map g) ρ S := fo_by g Iv l l [] rfl ρ S h0 hg hs hd
theorem isP_ne {x : PV} {neg : Bool} {S : Sto} {Q : PK1} (h : x ≠ .non) : isP neg x .non S Q = Q (.bl (neg ^^ false)) S := by
  cases x <;> first | rfl | exact absurd rfl h
theorem Prog.mono {p : List Ord} {m n : Nat} (h : Prog p m) (hn : m ≤ n) : Prog p n := ⟨h.one, Nat.le_trans h.le hn, h.ok, h.last⟩
end PL.Cm

namespace C14
open PySem PL
def a_need_whole : List Sm := [.ite (.not (.call 0 (.cons (.var 0) (.cons (.var 1) (.cons (.var 2) .nil)))))
    [.never]
    []]
abbrev N_need_whole : List Str := ["value", "low", "high"]
def a_need_program : List Sm := [.ite (.not (.call 0 (.cons (.var 0) .nil)))
    [.never]
    []]
abbrev N_need_program : List Str := ["value"]
def a_stops : List Sm := [.ret (.cmp .In (.idx (.var 0) (.lit (.int 0))) (.tup (.cons (.con 1) (.cons (.con 0) .nil))))]
abbrev N_stops : List Str := ["order"]
def a_next_places : List Sm := [.set 2 (.idx (.var 0) (.var 1)),
    .ite (.call 0 (.cons (.var 2) .nil))
    [.ret (.lstF .nil)]
    [],
    .ite (.cmp .Eq (.idx (.var 2) (.lit (.int 0))) (.con 0))
    [.ret (.lstF (.cons (.idx (.var 2) (.lit (.int 1))) .nil))]
    [],
    .ret (.ite (.cmp .Eq (.idx (.var 2) (.lit (.int 0))) (.con 1)) (.sset (.lstF (.cons (.bin .Add (.var 1) (.lit (.int 1))) (.cons (.idx (.var 2) (.lit (.int 4))) .nil)))) (.lstF (.cons (.bin .Add (.var 1) (.lit (.int 1))) .nil)))]
abbrev N_next_places : List Str := ["program", "place", "order"]
def a_all_next : List Sm := [.ret (.lcF [1] (.nm 1) (.rng (.cons (.blt .len (.cons (.var 0) .nil)) .nil)) .nil (.call 0 (.cons (.var 0) (.cons (.var 1) .nil))))]
abbrev N_all_next : List Str := ["program", "place"]
def a_way_in : List Sm := [.par 3 4 (.disp (.cons (.var 1) (.cons (.lit .non) .nil))) (.lst (.cons (.var 1) .nil)),
    .wh (.bop .And (.cons (.cmp .NotEq (.var 4) (.lstF .nil)) (.cons (.cmp .NotIn (.var 2) (.var 3)) .nil)))
    [.set 5 (.mth .popAt (.var 4) (.cons (.lit (.int 0)) .nil)),
    .fo (.nm 6) (.seq (.idx (.var 0) (.var 5)))
    [.ite (.cmp .NotIn (.var 6) (.var 3))
    [.put (.var 3) (.var 6) (.var 5),
    .exp (.mth .append (.var 4) (.cons (.var 6) .nil))]
    []]],
    .ite (.cmp .NotIn (.var 2) (.var 3))
    [.ret (.lit .non)]
    [],
    .set 7 (.lst (.cons (.var 2) .nil)),
    .wh (.cmp .IsNot (.idx (.var 3) (.idx (.var 7) (.neg (.lit (.int 1))))) (.lit .non))
    [.exp (.mth .append (.var 7) (.cons (.idx (.var 3) (.idx (.var 7) (.neg (.lit (.int 1))))) .nil))],
    .ret (.blt .tuple (.cons (.frz (.revL (.var 7))) .nil))]
abbrev N_way_in : List Str := ["nexts", "place", "other", "ahead", "line", "here", "later", "found"]
def a_need_place : List Sm := [.exp (.call 0 (.cons (.var 1) (.cons (.lit (.int 0)) (.cons (.bin .Sub (.blt .len (.cons (.var 0) .nil)) (.lit (.int 1))) .nil))))]
abbrev N_need_place : List Str := ["program", "place"]
def a_leads_on : List Sm := [.exp (.call 0 (.cons (.var 0) .nil)),
    .exp (.call 1 (.cons (.var 0) (.cons (.var 1) .nil))),
    .ret (.blt .tuple (.cons (.call 2 (.cons (.var 0) (.cons (.var 1) .nil))) .nil))]
abbrev N_leads_on : List Str := ["program", "place"]
def a_shortest_way : List Sm := [.exp (.call 0 (.cons (.var 0) .nil)),
    .exp (.call 1 (.cons (.var 0) (.cons (.var 1) .nil))),
    .exp (.call 1 (.cons (.var 0) (.cons (.var 2) .nil))),
    .ret (.call 2 (.cons (.call 3 (.cons (.var 0) .nil)) (.cons (.var 1) (.cons (.var 2) .nil))))]
abbrev N_shortest_way : List Str := ["program", "place", "other"]
def a_rows_in : List Sm := [.tup [2, 3] (.tup (.cons (.call 0 (.cons (.var 0) .nil)) (.cons (.lst (.cons (.lstF (.cons (.lit (.int 0)) .nil)) .nil)) .nil))),
    .fo (.nm 4) (.rng (.cons (.var 1) .nil))
    [.exp (.mth .append (.var 3) (.cons (.sset (.lccF [5, 6] [6] (.nm 5) (.seq (.idx (.var 3) (.neg (.lit (.int 1))))) .nil (.nm 6) (.seq (.idx (.var 2) (.var 5))) .nil (.var 6))) .nil))],
    .ret (.frz (.var 3))]
abbrev N_rows_in : List Str := ["program", "most", "nexts", "found", "turn", "place", "later"]
def a_flow_rows : List Sm := [.exp (.call 0 (.cons (.var 0) .nil)),
    .exp (.call 1 (.cons (.var 1) (.cons (.lit (.int 0)) (.cons (.con 0) .nil)))),
    .ret (.blt .tuple (.cons (.lcF [2] (.nm 2) (.seq (.call 2 (.cons (.var 0) (.cons (.var 1) .nil)))) .nil (.blt .tuple (.cons (.var 2) .nil))) .nil))]
abbrev N_flow_rows : List Str := ["program", "most", "row"]
def a_steps_to : List Sm := [.exp (.call 0 (.cons (.var 0) .nil)),
    .exp (.call 1 (.cons (.var 0) (.cons (.var 1) .nil))),
    .exp (.call 2 (.cons (.var 2) (.cons (.lit (.int 0)) (.cons (.con 0) .nil)))),
    .ret (.blt .tuple (.cons (.lcF [3, 4] (.tup [3, 4]) (.enum (.call 3 (.cons (.var 0) (.cons (.var 2) .nil)))) (.cons (.cmp .In (.var 1) (.var 4)) .nil) (.var 3)) .nil))]
abbrev N_steps_to : List Str := ["program", "place", "most", "number", "row"]
def a_law_cup : List Sm := [.set 1 (.blt .abs (.cons (.idx (.bin .Add (.bltF .list (.cons (.var 0) .nil)) (.lstF (.cons (.lit (.int 0)) .nil))) (.lit (.int 0))) .nil)),
    .ret (.lst (.cons (.ite (.cmp .GtE (.var 1) (.bin .Pow (.lit (.int 10)) (.lit (.int 18)))) (.bin .FloorDiv (.var 1) (.lit (.int 47))) (.lit (.int 0))) (.cons (.bin .Add (.bin .Mod (.blt .int (.cons (.bin .Add (.bin .Mult (.var 1) (.lit (.int 283))) (.lit (.int 4845))) .nil)) (.lit (.int 2077503259))) (.lit (.int 197))) .nil)))]
abbrev N_law_cup : List Str := ["script", "cell"]
def a_law_after : List Sm := [.set 2 (.idx (.var 0) (.var 1)),
    .ite (.cmp .In (.idx (.var 2) (.lit (.int 0))) (.tup (.cons (.lit (.str "end")) (.cons (.lit (.str "fault")) .nil))))
    [.ret (.lstF .nil)]
    [],
    .ret (.ite (.cmp .Eq (.idx (.var 2) (.lit (.int 0))) (.lit (.str "go"))) (.lstF (.cons (.idx (.var 2) (.lit (.int 1))) .nil)) (.ite (.cmp .Eq (.idx (.var 2) (.lit (.int 0))) (.lit (.str "if"))) (.sset (.lstF (.cons (.bin .Add (.var 1) (.lit (.int 1))) (.cons (.idx (.var 2) (.lit (.int 4))) .nil)))) (.lstF (.cons (.bin .Add (.var 1) (.lit (.int 1))) .nil))))]
abbrev N_law_after : List Str := ["program", "place", "order"]
def a_law_rows : List Sm := [.set 2 (.lst (.cons (.tup (.cons (.lit (.int 0)) .nil)) .nil)),
    .fo (.nm 3) (.rng (.cons (.var 1) .nil))
    [.set 4 .dicK,
    .fo (.nm 5) (.seq (.idx (.var 2) (.neg (.lit (.int 1)))))
    [.fo (.nm 6) (.seq (.call 0 (.cons (.var 0) (.cons (.var 5) .nil))))
    [.put (.var 4) (.var 6) (.lit (.bl true))]],
    .exp (.mth .append (.var 2) (.cons (.blt .tuple (.cons (.bltF .sorted (.cons (.var 4) .nil)) .nil)) .nil))],
    .ret (.blt .tuple (.cons (.var 2) .nil))]
abbrev N_law_rows : List Str := ["program", "most", "found", "turn", "there", "place", "later"]
def a_law_from : List Sm := [.set 2 (.lcF [3] (.nm 3) (.rng (.cons (.blt .len (.cons (.var 0) .nil)) .nil)) .nil (.dctF (.lcF [4] (.nm 4) (.seq (.call 0 (.cons (.var 0) (.cons (.var 3) .nil)))) .nil (.tup (.cons (.var 4) (.cons (.lit (.bl true)) .nil)))))),
    .set 5 (.lit (.int 1)),
    .wh (.cmp .Lt (.var 5) (.var 1))
    [.set 6 (.lst .nil),
    .fo (.nm 7) (.seq (.var 2))
    [.set 8 .dicK,
    .fo (.nm 9) (.seq (.var 7))
    [.fo (.nm 4) (.seq (.idx (.var 2) (.var 9)))
    [.put (.var 8) (.var 4) (.lit (.bl true))]],
    .exp (.mth .append (.var 6) (.cons (.frz (.var 8)) .nil))],
    .par 2 5 (.frz (.var 6)) (.bin .Mult (.lit (.int 2)) (.var 5))],
    .ret (.var 2)]
abbrev N_law_from : List Str := ["program", "many", "found", "place", "later", "steps", "longer", "own", "there", "middle"]
def a_law_right : List Sm := [.set 2 (.call 0 (.cons (.var 1) (.cons (.lit (.int 200)) .nil))),
    .ite (.not (.call 1 (.cons (.call 2 (.cons (.var 1) (.cons (.lit (.int 200)) .nil))) (.cons (.var 2) .nil))))
    [.ret (.lit (.bl false))]
    [],
    .fo (.nm 3) (.seq (.tup (.cons (.lit (.int 64)) (.cons (.lit (.int 128)) .nil))))
    [.ite (.cmp .NotEq (.idx (.var 2) (.var 3)) (.blt .tuple (.cons (.bltF .sorted (.cons (.idx (.call 3 (.cons (.var 1) (.cons (.var 3) .nil))) (.lit (.int 0))) .nil)) .nil)))
    [.ret (.lit (.bl false))]
    []],
    .fo (.nm 4) (.rng (.cons (.lit (.int 5)) .nil))
    [.tup [5, 6] (.tup (.cons (.call 5 (.cons (.var 0) (.cons (.blt .len (.cons (.var 1) .nil)) .nil))) (.cons (.call 4 (.cons (.var 0) (.cons (.lstF (.cons (.lit (.int 0)) (.cons (.lit (.int 1)) (.cons (.lit (.int 7)) (.cons (.lit (.int 60)) (.cons (.lit (.int 200)) .nil)))))) .nil))) .nil))),
    .set 7 (.blt .tuple (.cons (.lcF [8] (.nm 8) (.rng (.cons (.bin .Add (.var 6) (.lit (.int 1))) .nil)) (.cons (.cmp .In (.var 5) (.idx (.var 2) (.var 8))) .nil) (.var 8)) .nil)),
    .ite (.not (.call 1 (.cons (.lstF (.cons (.call 8 (.cons (.var 1) (.cons (.var 5) (.cons (.var 6) .nil)))) (.cons (.call 2 (.cons (.var 1) (.cons (.var 6) .nil))) (.cons (.call 7 (.cons (.var 1) (.cons (.var 5) .nil))) .nil)))) (.cons (.lstF (.cons (.var 7) (.cons (.sl (.var 2) .nil (.cons (.bin .Add (.var 6) (.lit (.int 1))) .nil)) (.cons (.blt .tuple (.cons (.call 6 (.cons (.var 1) (.cons (.var 5) .nil))) .nil)) .nil)))) .nil))))
    [.ret (.lit (.bl false))]
    [],
    .par 9 10 (.call 9 (.cons (.var 1) (.cons (.lit (.int 0)) (.cons (.var 5) .nil)))) (.lcF [8] (.nm 8) (.rng (.cons (.lit (.int 201)) .nil)) (.cons (.cmp .In (.var 5) (.idx (.var 2) (.var 8))) .nil) (.var 8)),
    .ite (.not (.call 1 (.cons (.ite (.cmp .Is (.var 9) (.lit .non)) (.lit .non) (.bin .Sub (.blt .len (.cons (.var 9) .nil)) (.lit (.int 1)))) (.cons (.ite (.cmp .Eq (.var 10) (.lstF .nil)) (.lit .non) (.idx (.var 10) (.lit (.int 0)))) .nil))))
    [.ret (.lit (.bl false))]
    []],
    .ret (.lit (.bl true))]
abbrev N_law_right : List Str := ["cup", "program", "rows", "many", "turn", "place", "most", "due", "number", "way", "numbers"]
def a_law_written_right : List Sm := [.set 0 (.lstF (.cons (.call 0 (.cons (.tup (.cons (.tup (.cons (.lit (.str "go")) (.cons (.lit (.int 0)) .nil))) .nil)) (.cons (.lit (.int 0)) (.cons (.lit (.int 200)) .nil)))) (.cons (.idx (.call 1 (.cons (.tup (.cons (.tup (.cons (.lit (.str "go")) (.cons (.lit (.int 0)) .nil))) .nil)) (.cons (.lit (.int 200)) .nil))) (.lit (.int 200))) (.cons (.call 0 (.cons (.tup (.cons (.tup (.cons (.lit (.str "if")) (.cons (.lit (.str "same")) (.cons (.lit (.int 3)) (.cons (.lit (.int 3)) (.cons (.lit (.int 0)) .nil)))))) (.cons (.tup (.cons (.lit (.str "end")) .nil)) .nil))) (.cons (.lit (.int 1)) (.cons (.lit (.int 200)) .nil)))) .nil)))),
    .set 0 (.bin .Add (.var 0) (.lstF (.cons (.call 0 (.cons (.tup (.cons (.tup (.cons (.lit (.str "if")) (.cons (.lit (.str "less")) (.cons (.lit (.int 3)) (.cons (.lit (.int 0)) (.cons (.lit (.int 1)) .nil)))))) (.cons (.tup (.cons (.lit (.str "end")) .nil)) .nil))) (.cons (.lit (.int 1)) (.cons (.lit (.int 200)) .nil)))) .nil))),
    .set 1 (.lst (.cons (.trg (.cons (.lit (.int 201)) .nil)) (.cons (.tup (.cons (.lit (.int 0)) .nil)) (.cons (.trg (.cons (.lit (.int 1)) (.cons (.lit (.int 201)) .nil))) (.cons (.tup (.cons (.lit (.int 1)) .nil)) .nil))))),
    .set 2 (.tup (.cons (.tup (.cons (.lit (.str "if")) (.cons (.lit (.str "same")) (.cons (.lit (.int 0)) (.cons (.lit (.int 3)) (.cons (.lit (.int 2)) .nil)))))) (.cons (.tup (.cons (.lit (.str "go")) (.cons (.lit (.int 0)) .nil))) (.cons (.tup (.cons (.lit (.str "copy")) (.cons (.lit (.int 3)) (.cons (.lit (.int 3)) .nil)))) (.cons (.tup (.cons (.lit (.str "go")) (.cons (.lit (.int 0)) .nil))) .nil))))),
    .set 0 (.bin .Add (.var 0) (.lstF (.cons (.call 0 (.cons (.var 2) (.cons (.lit (.int 0)) (.cons (.lit (.int 200)) .nil)))) (.cons (.call 0 (.cons (.var 2) (.cons (.lit (.int 1)) (.cons (.lit (.int 60)) .nil)))) (.cons (.call 0 (.cons (.var 2) (.cons (.lit (.int 3)) (.cons (.lit (.int 9)) .nil)))) (.cons (.call 1 (.cons (.var 2) (.cons (.lit (.int 7)) .nil))) .nil)))))),
    .set 1 (.bin .Add (.var 1) (.lst (.cons (.bin .Add (.tup (.cons (.lit (.int 0)) .nil)) (.trg (.cons (.lit (.int 2)) (.cons (.lit (.int 201)) .nil)))) (.cons (.bin .Add (.tup (.cons (.lit (.int 1)) .nil)) (.trg (.cons (.lit (.int 3)) (.cons (.lit (.int 61)) .nil)))) (.cons (.tup (.cons (.lit (.int 2)) (.cons (.lit (.int 4)) (.cons (.lit (.int 5)) (.cons (.lit (.int 6)) (.cons (.lit (.int 7)) (.cons (.lit (.int 8)) (.cons (.lit (.int 9)) .nil)))))))) .nil))))),
    .exp (.mth .append (.var 1) (.cons (.tup (.cons (.tup (.cons (.lit (.int 0)) .nil)) (.cons (.tup (.cons (.lit (.int 1)) (.cons (.lit (.int 2)) .nil))) (.cons (.tup (.cons (.lit (.int 0)) (.cons (.lit (.int 3)) .nil))) (.cons (.tup (.cons (.lit (.int 0)) (.cons (.lit (.int 1)) (.cons (.lit (.int 2)) .nil)))) (.cons (.tup (.cons (.lit (.int 0)) (.cons (.lit (.int 1)) (.cons (.lit (.int 2)) (.cons (.lit (.int 3)) .nil))))) (.cons (.tup (.cons (.lit (.int 0)) (.cons (.lit (.int 1)) (.cons (.lit (.int 2)) (.cons (.lit (.int 3)) .nil))))) (.cons (.tup (.cons (.lit (.int 0)) (.cons (.lit (.int 1)) (.cons (.lit (.int 2)) (.cons (.lit (.int 3)) .nil))))) (.cons (.tup (.cons (.lit (.int 0)) (.cons (.lit (.int 1)) (.cons (.lit (.int 2)) (.cons (.lit (.int 3)) .nil))))) .nil))))))))) .nil)),
    .set 3 (.bin .Add (.blt .tuple (.cons (.lcF [4] (.nm 4) (.rng (.cons (.lit (.int 59)) .nil)) .nil (.tup (.cons (.lit (.str "if")) (.cons (.lit (.str "less")) (.cons (.lit (.int 3)) (.cons (.lit (.int 2)) (.cons (.var 4) .nil))))))) .nil)) (.tup (.cons (.tup (.cons (.lit (.str "fault")) (.cons (.lit (.int 9)) .nil))) .nil))),
    .set 5 (.call 1 (.cons (.var 3) (.cons (.lit (.int 200)) .nil))),
    .set 0 (.bin .Add (.var 0) (.lstF (.cons (.idx (.var 5) (.lit (.int 30))) (.cons (.idx (.var 5) (.lit (.int 58))) (.cons (.idx (.var 5) (.lit (.int 59))) (.cons (.idx (.var 5) (.lit (.int 200))) (.cons (.call 0 (.cons (.var 3) (.cons (.lit (.int 59)) (.cons (.lit (.int 200)) .nil)))) (.cons (.call 0 (.cons (.var 3) (.cons (.lit (.int 31)) (.cons (.lit (.int 33)) .nil)))) .nil)))))))),
    .set 1 (.bin .Add (.var 1) (.lst (.cons (.trg (.cons (.lit (.int 31)) .nil)) (.cons (.trg (.cons (.lit (.int 59)) .nil)) (.cons (.trg (.cons (.lit (.int 60)) .nil)) (.cons (.trg (.cons (.lit (.int 60)) .nil)) (.cons (.trg (.cons (.lit (.int 59)) (.cons (.lit (.int 201)) .nil))) (.cons (.tup (.cons (.lit (.int 31)) (.cons (.lit (.int 32)) (.cons (.lit (.int 33)) .nil)))) .nil)))))))),
    .set 6 (.bin .Add (.bin .Add (.tup (.cons (.tup (.cons (.lit (.str "if")) (.cons (.lit (.str "same")) (.cons (.lit (.int 0)) (.cons (.lit (.int 1)) (.cons (.lit (.int 2)) .nil)))))) .nil)) (.bin .Mult (.tup (.cons (.tup (.cons (.lit (.str "put")) (.cons (.lit (.int 3)) (.cons (.lit (.int 255)) .nil)))) .nil)) (.lit (.int 58)))) (.tup (.cons (.tup (.cons (.lit (.str "go")) (.cons (.lit (.int 0)) .nil))) .nil))),
    .set 0 (.bin .Add (.var 0) (.lstF (.cons (.idx (.call 1 (.cons (.var 6) (.cons (.lit (.int 200)) .nil))) (.lit (.int 59))) (.cons (.idx (.call 1 (.cons (.var 6) (.cons (.lit (.int 200)) .nil))) (.lit (.int 60))) (.cons (.idx (.call 1 (.cons (.var 6) (.cons (.lit (.int 200)) .nil))) (.lit (.int 120))) (.cons (.call 0 (.cons (.var 6) (.cons (.lit (.int 0)) (.cons (.lit (.int 200)) .nil)))) (.cons (.call 0 (.cons (.var 6) (.cons (.lit (.int 1)) (.cons (.lit (.int 130)) .nil)))) .nil))))))),
    .set 1 (.bin .Add (.var 1) (.lst (.cons (.tup (.cons (.lit (.int 0)) (.cons (.lit (.int 59)) .nil))) (.cons (.tup (.cons (.lit (.int 0)) (.cons (.lit (.int 1)) (.cons (.lit (.int 2)) .nil)))) (.cons (.tup (.cons (.lit (.int 0)) (.cons (.lit (.int 1)) (.cons (.lit (.int 2)) (.cons (.lit (.int 3)) .nil))))) (.cons (.tup (.cons (.lit (.int 0)) (.cons (.lit (.int 59)) (.cons (.lit (.int 60)) (.cons (.lit (.int 118)) (.cons (.lit (.int 119)) (.cons (.lit (.int 120)) (.cons (.lit (.int 177)) (.cons (.lit (.int 178)) (.cons (.lit (.int 179)) (.cons (.lit (.int 180)) .nil))))))))))) (.cons (.tup (.cons (.lit (.int 1)) (.cons (.lit (.int 60)) (.cons (.lit (.int 61)) (.cons (.lit (.int 119)) (.cons (.lit (.int 120)) (.cons (.lit (.int 121)) .nil))))))) .nil))))))),
    .set 7 (.bin .Add (.blt .tuple (.cons (.lcF [4] (.nm 4) (.rng (.cons (.lit (.int 40)) .nil)) .nil (.tup (.cons (.lit (.str "if")) (.cons (.lit (.str "same")) (.cons (.lit (.int 3)) (.cons (.lit (.int 3)) (.cons (.bin .Add (.var 4) (.lit (.int 1))) .nil))))))) .nil)) (.tup (.cons (.tup (.cons (.lit (.str "end")) .nil)) .nil))),
    .set 0 (.bin .Add (.var 0) (.lstF (.cons (.call 1 (.cons (.var 7) (.cons (.lit (.int 41)) .nil))) (.cons (.lcF [4] (.nm 4) (.seq (.tup (.cons (.lit (.int 0)) (.cons (.lit (.int 17)) (.cons (.lit (.int 40)) .nil))))) .nil (.call 0 (.cons (.var 7) (.cons (.var 4) (.cons (.lit (.int 200)) .nil))))) .nil)))),
    .ret (.call 2 (.cons (.var 0) (.cons (.bin .Add (.var 1) (.lstF (.cons (.bin .Add (.blt .tuple (.cons (.lcF [4] (.nm 4) (.rng (.cons (.lit (.int 41)) .nil)) .nil (.tup (.cons (.var 4) .nil))) .nil)) (.tup (.cons (.tup .nil) .nil))) (.cons (.lstF (.cons (.tup (.cons (.lit (.int 0)) .nil)) (.cons (.tup (.cons (.lit (.int 17)) .nil)) (.cons (.tup (.cons (.lit (.int 40)) .nil)) .nil)))) .nil)))) .nil)))]
abbrev N_law_written_right : List Str := ["told", "due", "two", "still", "place", "rows", "ring", "line"]
def a_law : List Sm := [.ite (.not (.call 0 .nil))
    [.ret (.lit (.bl false))]
    [],
    .set 1 (.call 1 (.cons (.var 0) .nil)),
    .fo (.nm 2) (.seq (.tup (.cons (.lit (.int 4)) (.cons (.lit (.int 10)) (.cons (.lit (.int 20)) (.cons (.lit (.int 40)) (.cons (.lit (.int 59)) .nil)))))))
    [.ite (.not (.call 2 (.cons (.var 1) (.cons (.call 3 (.cons (.var 1) (.cons (.var 2) .nil))) .nil))))
    [.ret (.lit (.bl false))]
    []],
    .ret (.lit (.bl true))]
abbrev N_law : List Str := ["script", "cup", "most"]
end C14

set_option maxRecDepth 100000
set_option linter.all false
set_option maxHeartbeats 4000000
namespace PL.Cm
open PySem PySem.Spec
/-! ### ascending lists of numbers -/
def insN (n : Nat) : List Nat → List Nat
  | [] => [n]
  | m :: r => if n < m then n :: m :: r else if n = m then m :: r else m :: insN n r
def nsort (l : List Nat) : List Nat := l.foldr insN []
theorem insN_cast (n : Nat) : ∀ l : List Nat, insI (n : Int) (l.map fun x : Nat => (x : Int)) = (insN n l).map fun x : Nat => (x : Int)
  | [] => rfl
  | m :: r => by
    rw [List.map_cons]
    unfold insI insN
    by_cases h : n < m
    · rw [if_pos (by omega), if_pos h]; rfl
    · rw [if_neg (by omega), if_neg h]
      by_cases e : n = m
      · rw [if_pos (by omega), if_pos e]; rfl
      · rw [if_neg (by omega), if_neg e, insN_cast n r]; rfl
theorem ssort_cast : ∀ l : List Nat, ssort (l.map fun x : Nat => (x : Int)) = (nsort l).map fun x : Nat => (x : Int)
  | [] => rfl
  | n :: r => by
    show insI (n : Int) (ssort (r.map fun x : Nat => (x : Int))) = (insN n (nsort r)).map _
    rw [ssort_cast r, insN_cast]
theorem nsort_mem {k : Nat} {l : List Nat} : k ∈ nsort l ↔ k ∈ l := by
  have h := ssort_mem (k := (k : Int)) (l := l.map fun x : Nat => (x : Int))
  rw [ssort_cast] at h
  simp only [List.mem_map] at h
  constructor
  · intro hk
    obtain ⟨a, ha, e⟩ := h.mp ⟨k, hk, rfl⟩
    have : a = k := by omega
    subst this; exact ha
  · intro hk
    obtain ⟨a, ha, e⟩ := h.mpr ⟨k, hk, rfl⟩
    have : a = k := by omega
    subst this; exact ha
theorem nsort_sorted (l : List Nat) : (nsort l).Pairwise (· < ·) := by
  have h := ssort_sorted (l.map fun x : Nat => (x : Int))
  rw [ssort_cast, List.pairwise_map] at h
  exact h.imp fun h => by omega
theorem nsort_eq {l l' : List Nat} (h : ∀ k, k ∈ l ↔ k ∈ l') : nsort l = nsort l' := by
  have e := strict_one (ssort_sorted (l.map fun x : Nat => (x : Int))) (ssort_sorted (l'.map fun x : Nat => (x : Int))) fun k => by
    rw [ssort_mem, ssort_mem]
    simp [h]
  rw [ssort_cast, ssort_cast] at e
  have inj : ∀ a b : List Nat, a.map (fun x : Nat => (x : Int)) = b.map (fun x : Nat => (x : Int)) → a = b := by
    intro a
    induction a with
    | nil => intro b h; cases b with | nil => rfl | cons _ _ => simp at h
    | cons x a ih => intro b h; cases b with
      | nil => simp at h
      | cons y b =>
        rw [List.map_cons, List.map_cons, List.cons.injEq] at h
        have e : x = y := by omega
        rw [ih b h.2, e]
  exact inj _ _ e
theorem nsort_lt {l : List Nat} {m : Nat} (h : ∀ k ∈ l, k < m) : (nsort l).length ≤ m := by
  have nd : (nsort l).Nodup := (nsort_sorted l).imp fun h e => by omega
  have := List.Nodup.length_le_of_subset (l₁ := nsort l) (l₂ := List.range m) nd fun k hk => by
    rw [List.mem_range]; exact h k (nsort_mem.mp hk)
  simpa using this
theorem intsP_iN (l : List Nat) : intsP (l.map iN) = some (l.map fun x : Nat => (x : Int)) := intsP_map (fun x : Nat => (x : Int)) l
theorem map_iN (l : List Nat) : (l.map fun x : Nat => (x : Int)).map PV.int = l.map iN := by rw [List.map_map]; rfl
/-! ### where places lead on -/
def Ord.stop : Ord → Bool
  | .fin => true | .fault _ => true
  | _ => false
def Ord.nxt (i : Nat) : Ord → List Nat
  | .fin => [] | .fault _ => [] | .go q => [q] | .ifo _ _ _ q => nsort [i + 1, q]
  | _ => [i + 1]
def nx (p : List Ord) (i : Nat) : List Nat := match p[i]? with
  | some o => o.nxt i
  | none => []
theorem nx_at {p : List Ord} {i : Nat} (h : i < p.length) : nx p i = (p[i]).nxt i := by unfold nx; rw [List.getElem?_eq_getElem h]
theorem nx_lt {p : List Ord} {m i j : Nat} (hp : Prog p m) (hj : j ∈ nx p i) : j < p.length := by
  unfold nx at hj
  cases e : p[i]? with
  | none => rw [e] at hj; cases hj
  | some o =>
    rw [e] at hj
    obtain ⟨hi, eo⟩ := List.getElem?_eq_some_iff.mp e
    have ho : o.ok p.length := hp.ok o (by rw [← eo]; exact List.getElem_mem _)
    obtain ⟨q, z, ep, hz⟩ := hp.last
    have hlast : o.last = false → i + 1 < p.length := fun hl => by
      have hpl : p.length = q.length + 1 := by rw [ep]; simp
      apply Classical.byContradiction
      intro hc
      have : i = q.length := by omega
      subst this
      have : o = z := by
        rw [← eo]
        subst ep
        simp
      rw [this, hz] at hl
      cases hl
    cases o <;> simp only [Ord.nxt, List.mem_singleton, List.not_mem_nil] at hj <;> try (subst hj; exact hlast rfl)
    · rw [nsort_mem] at hj
      simp only [List.mem_cons, List.not_mem_nil, or_false] at hj
      rcases hj with rfl | rfl
      · exact hlast rfl
      · exact ho.2.2
    · subst hj; exact ho
/-! the walks -/
def c_stops : Con := fun xs S Q => ∃ o : Ord, xs = [o.enc] ∧ Q (.bl o.stop) S
theorem v_stops (xs S Q) (h : c_stops xs S Q) : wSs (pvAt [.str "fault", .str "end"]) (conAt []) C14.a_stops (rets Q) (startP 1 xs) S := by
  obtain ⟨o, rfl, q⟩ := h
  replace q := ret_here q
  cases o <;> simp [C14.a_stops, Ord.enc] <;> rw [inP_two (by simp) (by simp) (by simp)] <;> simpa (config := {decide := true}) [Ord.stop] using q
def c_next : Con := fun xs S Q => ∃ (p : List Ord) (i : Nat), xs = [encP p, iN i] ∧ Prog p 60 ∧ i < p.length ∧ Q (.rol ((nx p i).map iN)) S
theorem sset2 {a b : Nat} {S : Sto} {Q : PK1} (q : Q (.rol ((nsort [a, b]).map iN)) S) : (match ((listP (.rol [iN a, iN b]) S).bind intsP) with
    | some ns => (ssort ns).length < 64 ∧ ns.length < 4000 ∧ Q (.rol ((ssort ns).map .int)) S
    | none => False) := by
  show (ssort [(a : Int), b]).length < 64 ∧ _
  have e : ssort [(a : Int), b] = (nsort [a, b]).map fun x : Nat => (x : Int) := ssort_cast [a, b]
  refine ⟨by have := ssort_len [(a : Int), b]; simp at this; omega, by simp, ?_⟩
  rw [e, map_iN]; exact q
theorem v_next (xs S Q) (h : c_next xs S Q) : wSs (pvAt [.str "go", .str "if"]) (conAt [c_stops]) C14.a_next_places (rets Q) (startP 3 xs) S := by
  obtain ⟨p, i, rfl, hp, hi, q⟩ := h
  replace q := ret_here q
  rw [nx_at hi] at q
  simp [C14.a_next_places, encP, List.getElem?_eq_getElem hi]
  refine ⟨p[i], rfl, ?_⟩
  generalize p[i] = o at q
  cases o <;> simp (config := {decide := true}) [Ord.stop, Ord.enc] <;> first | exact q | (exact sset2 (Q := fun v S => ∃ S2, SubS S2 S ∧ Q v S2) q)
theorem v_after (xs S Q) (h : c_next xs S Q) : wSs (pvAt []) (conAt []) C14.a_law_after (rets Q) (startP 3 xs) S := by
  obtain ⟨p, i, rfl, hp, hi, q⟩ := h
  replace q := ret_here q
  rw [nx_at hi] at q
  simp [C14.a_law_after, encP, List.getElem?_eq_getElem hi]
  generalize p[i] = o at q
  cases o <;> simp [Ord.enc] <;> rw [inP_two (by simp) (by simp) (by simp)] <;> simp (config := {decide := true}) [Ord.stop, Ord.enc] <;> first | exact q | (exact sset2 (Q := fun v S => ∃ S2, SubS S2 S ∧ Q v S2) q)
end PL.Cm

set_option maxRecDepth 100000
set_option linter.all false
set_option maxHeartbeats 4000000
namespace PL.Cm
open PySem PySem.Spec
theorem rng_iN (n : Nat) : rngL 0 (n : Int) = (List.range n).map iN := by
  unfold rngL
  rw [Int.sub_zero, Int.toNat_natCast]
  congr 1
  funext i
  simp
abbrev rolN (l : List Nat) : PV := .rol (l.map iN)
abbrev tupN (l : List Nat) : PV := .tup (l.map iN)
@[simp] def f_need_whole : List PV → Option PV
  | [x, .int lo, .int hi] => if inR x lo hi then some .non else none
  | _ => none
theorem v_need_whole (xs S Q) (h : pc f_need_whole xs S Q) : wSs (pvAt []) (conAt [pc f_is_whole]) C14.a_need_whole (rets Q) (startP 3 xs) S := by
  obtain ⟨v, h, q⟩ := h
  unfold f_need_whole at h
  split at h
  case h_2 => cases h
  split at h
  case isFalse => cases h
  rename_i hp
  cases h
  simp [C14.a_need_whole, pc_eq, hp, inR_pur hp]
  exact ret_here q
@[simp] def f_need_program : List PV → Option PV
  | [x] => if okP x = true ∧ fitsP x = true then some .non else none
  | _ => none
theorem v_need_program (xs S Q) (h : pc f_need_program xs S Q) : wSs (pvAt []) (conAt [pc f_fits_program]) C14.a_need_program (rets Q) (startP 1 xs) S := by
  obtain ⟨v, h, q⟩ := h
  unfold f_need_program at h
  split at h
  case h_2 => cases h
  split at h
  case isFalse => cases h
  rename_i hp
  cases h
  simp [C14.a_need_program, pc_eq, hp.1, hp.2]
  exact ret_here q
theorem needp_at {p : List Ord} {m : Nat} {S : Sto} {Q : PK1} (h : Prog p m) (hm : m ≤ 60) (q : Q .non S) : pc f_need_program [encP p] S Q :=
  ⟨.non, by simp [okP_enc, h.fits hm], q⟩
theorem needw_at {i : Nat} {hi : Int} {S : Sto} {Q : PK1} (h : (i : Int) ≤ hi) (q : Q .non S) : pc f_need_whole [iN i, .int 0, .int hi] S Q :=
  ⟨.non, by simp [inR]; omega, q⟩
def c_need_place : Con := fun xs S Q => ∃ (p : List Ord) (i : Nat), xs = [encP p, iN i] ∧ i < p.length ∧ Q .non S
theorem v_need_place (xs S Q) (h : c_need_place xs S Q) : wSs (pvAt []) (conAt [pc f_need_whole]) C14.a_need_place (rets Q) (startP 2 xs) S := by
  obtain ⟨p, i, rfl, hi, q⟩ := h
  simp [C14.a_need_place, encP]
  exact needw_at (by omega) (ret_here q)
def c_all_next : Con := fun xs S Q => ∃ (p : List Ord), xs = [encP p] ∧ Prog p 60 ∧ Q (.rol ((List.range p.length).map fun i => rolN (nx p i))) S
theorem v_all_next (xs S Q) (h : c_all_next xs S Q) : wSs (pvAt []) (conAt [c_next]) C14.a_all_next (rets Q) (startP 2 xs) S := by
  obtain ⟨p, rfl, hp, q⟩ := h
  replace q := ret_here q
  have := hp.le
  simp [C14.a_all_next, encP]
  refine ⟨by omega, ?_⟩
  rw [rng_iN]
  refine lf_map iN (fun i => rolN (nx p i)) _ (by simp; omega) trivial (fun i hi k hk => ?_) q
  exact ⟨p, i, rfl, hp, by simpa using hi, hk⟩
def c_leads : Con := fun xs S Q => ∃ (p : List Ord) (i : Nat), xs = [encP p, iN i] ∧ Prog p 60 ∧ i < p.length ∧ Q (tupN (nx p i)) S
theorem v_leads (xs S Q) (h : c_leads xs S Q) : wSs (pvAt []) (conAt [pc f_need_program, c_need_place, c_next]) C14.a_leads_on (rets Q) (startP 2 xs) S := by
  obtain ⟨p, i, rfl, hp, hi, q⟩ := h
  simp [C14.a_leads_on]
  refine needp_at hp (Nat.le_refl _) ?_
  refine ⟨p, i, rfl, hi, ?_⟩
  exact ⟨p, i, rfl, hp, hi, ret_here q⟩
/-! ### flow rows -/
def stp (p : List Ord) (i : Nat) : Nat → List Nat
  | 0 => [i]
  | t + 1 => nsort ((stp p i t).flatMap (nx p))
theorem stp_lt {p : List Ord} {m i : Nat} (hp : Prog p m) (hi : i < p.length) : ∀ t, ∀ j ∈ stp p i t, j < p.length
  | 0, j, hj => by simp [stp] at hj; omega
  | t + 1, j, hj => by
    rw [stp, nsort_mem, List.mem_flatMap] at hj
    obtain ⟨k, _, hk⟩ := hj
    exact nx_lt hp hk
theorem stp_sorted {p : List Ord} {i : Nat} : ∀ t, (stp p i t).Pairwise (· < ·)
  | 0 => by simp [stp]
  | t + 1 => nsort_sorted _
theorem stp_len {p : List Ord} {m i : Nat} (hp : Prog p m) (hi : i < p.length) (t : Nat) : (stp p i t).length ≤ p.length := by
  have nd : (stp p i t).Nodup := (stp_sorted t).imp fun h e => by omega
  have := List.Nodup.length_le_of_subset (l₁ := stp p i t) (l₂ := List.range p.length) nd fun k hk => by
    rw [List.mem_range]; exact stp_lt hp hi t k hk
  simpa using this
theorem nx_len {p : List Ord} {i : Nat} : (nx p i).length ≤ 2 := by
  unfold nx
  cases p[i]? with
  | none => simp
  | some o =>
    cases o <;> simp [Ord.nxt]
    rename_i q
    have := ssort_len ([i + 1, q].map fun x : Nat => (x : Int))
    rw [ssort_cast] at this
    simpa using this
theorem flat_len {p : List Ord} : ∀ l : List Nat, (l.flatMap (nx p)).length ≤ 2 * l.length
  | [] => by simp
  | a :: l => by
    rw [List.flatMap_cons, List.length_append, List.length_cons]
    have := flat_len (p := p) l
    have := nx_len (p := p) (i := a)
    omega
def rows (p : List Ord) (n : Nat) : List (List Nat) := (List.range (n + 1)).map (stp p 0)
/-- two clauses, all pure -/
theorem lf1_pure {α : Type} {Gd : Sto → Prop} {body : PV → Sto → (Option PV → Sto → Prop) → Prop} {K : List PV → Sto → Prop} {S : Sto} (g : α → PV) (f : α → PV) : ∀ (l : List α) (acc : List PV), acc.length + l.length ≤ sizeLine → Gd S →
    (∀ a ∈ l, ∀ k : Option PV → Sto → Prop, k (some (f a)) S → body (g a) S k) → K (acc ++ l.map f) S → lf1P Gd body K (l.map g) acc S
  | [], acc, _, hg, _, hq => ⟨hg, by simpa using hq⟩
  | a :: l, acc, hl, hg, hb, hq => by
    rw [List.length_cons] at hl
    refine ⟨hg, hb a List.mem_cons_self _ ?_⟩
    refine ⟨by omega, ?_⟩
    exact lf1_pure g f l (acc ++ [f a]) (by rw [List.length_append, List.length_singleton]; omega) hg (fun y hy => hb y (List.mem_cons_of_mem _ hy)) (by simpa using hq)
theorem lf2_pure {α : Type} {Gd : Sto → Prop} {body : PV → List PV → Sto → (List PV → Sto → Prop) → Prop} {Q : PK1} {S : Sto} (g : α → PV) (f : α → List PV) : ∀ (l : List α) (acc : List PV), acc.length + (l.flatMap f).length ≤ sizeLine → Gd S →
    (∀ a ∈ l, ∀ acc (k : List PV → Sto → Prop), acc.length + (f a).length ≤ sizeLine → k (acc ++ f a) S → body (g a) acc S k) → Q (.rol (acc ++ l.flatMap f)) S → lf2P Gd body Q (l.map g) acc S
  | [], acc, _, hg, _, hq => ⟨hg, by simpa using hq⟩
  | a :: l, acc, hl, hg, hb, hq => by
    rw [List.flatMap_cons, List.length_append] at hl
    refine ⟨hg, hb a List.mem_cons_self acc _ (by omega) ?_⟩
    exact lf2_pure g f l (acc ++ f a) (by rw [List.length_append]; omega) hg (fun y hy => hb y (List.mem_cons_of_mem _ hy)) (by simpa using hq)
theorem rows_last (p : List Ord) (n : Nat) : L2.atI ((rows p n).map rolN) (-1) = some (rolN (stp p 0 n)) := by
  rw [atI_m1]
  unfold rows
  rw [List.range_succ, List.map_append, List.map_append]
  simp
def c_rows : Con := fun xs S Q => ∃ (p : List Ord) (n : Nat), xs = [encP p, iN n] ∧ Prog p 60 ∧ n ≤ 1000 ∧ Q (.rol ((rows p n).map rolN)) S
theorem flat_map {p : List Ord} (l : List Nat) : l.flatMap (fun i => (nx p i).map iN) = (l.flatMap (nx p)).map iN := by
  rw [List.map_flatMap]
theorem v_rows (xs S Q) (h : c_rows xs S Q) : wSs (pvAt []) (conAt [c_all_next]) C14.a_rows_in (rets Q) (startP 7 xs) S := by
  obtain ⟨p, n, rfl, hp, hn, q⟩ := h
  have h60 := hp.le
  have h1 := hp.one
  simp [C14.a_rows_in]
  refine ⟨p, rfl, hp, ?_⟩
  intro D hD
  refine ⟨by omega, ?_⟩
  rw [rng_iN]
  refine fo_map _ (fun (pre : List Nat) ρ S2 => S2 = updS S D (.lst ((rows p pre.length).map rolN)) ∧ ∃ x4 , ρ = [some (encP p), some (iN n), some (.rol ((List.range p.length).map fun i => rolN (nx p i))), some (.ref D), x4, none, none]) _ _ _ ⟨rfl, _, rfl⟩ (fun _ _ _ _ => trivial) ?_ ?_
  · rintro pre i post ρ S2 k hpre ⟨rfl, x4, rfl⟩ next
    have hlast : ((rows p pre.length).map rolN) = ((List.range pre.length).map fun t => rolN (stp p 0 t)) ++ [rolN (stp p 0 pre.length)] := by
      unfold rows
      rw [List.range_succ, List.map_append, List.map_append, List.map_map]; rfl
    have hpl : pre.length < n := by
      have := congrArg List.length hpre
      simp at this; omega
    simp
    rw [idxP_lst updS_same (rows_last p pre.length)]
    simp
    refine lf2_pure iN (fun i => (nx p i).map iN) _ [] ?_ trivial (fun a ha acc k2 hl2 hk2 => ?_) ?_
    · rw [flat_map, List.length_map, sizeLine_val]
      have := flat_len (p := p) (stp p 0 pre.length)
      have := stp_len hp (by omega : 0 < p.length) pre.length
      rw [List.length_nil]; omega
    · have hal := stp_lt hp (by omega : 0 < p.length) _ a ha
      simp [List.getElem?_range, hal]
      exact lf1_pure iN iN _ _ (by simpa using hl2) trivial (fun b hb k3 hk3 => hk3) hk2
    · rw [List.nil_append, flat_map]
      show (match (listP (.rol (((stp p 0 pre.length).flatMap (nx p)).map iN)) _).bind intsP with
        | some ns => _
        | none => False)
      rw [listP_rol]
      simp only [Option.bind_some, intsP_iN]
      rw [ssort_cast, map_iN]
      refine ⟨?_, ?_, ?_⟩
      · rw [List.length_map]
        have := nsort_lt (l := (stp p 0 pre.length).flatMap (nx p)) (m := p.length) fun j hj => by
          obtain ⟨k, _, hk⟩ := List.mem_flatMap.mp hj
          exact nx_lt hp hk
        omega
      · rw [List.length_map]
        have := flat_len (p := p) (stp p 0 pre.length)
        have := stp_len hp (by omega : 0 < p.length) pre.length
        omega
      · rw [mth_append updS_same]
        refine ⟨by rw [sizeLine_val]; simp [rows]; omega, _, SubS.refl _, next _ _ ⟨?_, _, rfl⟩⟩
        rw [updS_updS]
        congr 2
        rw [List.length_append, List.length_singleton]
        unfold rows
        rw [List.range_succ (n := pre.length + 1), List.map_append, List.map_append]; rfl
  · rintro ρ S2 ⟨rfl, x4, rfl⟩
    simp
    rw [frz_at updS_same, dropS_new hD]
    exact ret_here q
end PL.Cm

set_option maxRecDepth 100000
set_option linter.all false
set_option maxHeartbeats 4000000
namespace PL.Cm
open PySem PySem.Spec
def c_flow : Con := fun xs S Q => ∃ (p : List Ord) (n : Nat), xs = [encP p, iN n] ∧ Prog p 60 ∧ n ≤ 200 ∧ Q (.tup ((rows p n).map tupN)) S
theorem v_flow (xs S Q) (h : c_flow xs S Q) : wSs (pvAt [.int 200]) (conAt [pc f_need_program, pc f_need_whole, c_rows]) C14.a_flow_rows (rets Q) (startP 3 xs) S := by
  obtain ⟨p, n, rfl, hp, hn, q⟩ := h
  simp [C14.a_flow_rows]
  refine needp_at hp (Nat.le_refl _) ?_
  refine needw_at (by omega) ?_
  refine ⟨p, n, rfl, hp, by omega, ?_⟩
  refine lf_map rolN tupN (rows p n) (by simp [rows]; omega) trivial (fun r hr k hk => ?_) ?_
  · simpa using hk
  · exact ret_here q
/-! a place in a row -/
theorem any_intN (l : List Nat) (i : Nat) : (l.map fun x : Nat => PyData.int (x : Int)).any (fun z => PyData.eqv z (.int (i : Int))) = decide (i ∈ l) := by
  induction l with
  | nil => rfl
  | cons a l ih =>
    rw [List.map_cons, List.any_cons, ih]
    have : PyData.eqv (.int (a : Int)) (.int (i : Int)) = decide (i = a) := by
      show ((a : Int) == (i : Int)) = _
      rw [Bool.eq_iff_iff, beq_iff_eq, decide_eq_true_eq]; omega
    rw [this]
    by_cases h : i = a <;> simp [h]
theorem dat_rolN (n : Nat) {S : Sto} (l : List Nat) : datF (n + 2) S (rolN l) = some (.list (l.map fun x : Nat => PyData.int (x : Int))) := by
  rw [dat_rol, List.map_map, allSome_map (datF (n + 1) S ∘ iN) (fun x : Nat => PyData.int (x : Int)) l fun a _ => rfl]; rfl
theorem dat_tupN (n : Nat) {S : Sto} (l : List Nat) : datF (n + 2) S (tupN l) = some (.tuple (l.map fun x : Nat => PyData.int (x : Int))) := by
  rw [dat_tup, List.map_map, allSome_map (datF (n + 1) S ∘ iN) (fun x : Nat => PyData.int (x : Int)) l fun a _ => rfl]; rfl
theorem inP_rolN {S : Sto} {Q : PK1} {neg : Bool} {i : Nat} {l : List Nat} : inP neg (iN i) (rolN l) S Q = Q (.bl (neg ^^ decide (i ∈ l))) S := by
  have h1 : dat S (iN i) = some (.int i) := rfl
  have h2 : dat S (rolN l) = _ := dat_rolN 5 l
  simp only [inP, h1, h2, any_intN]
theorem inP_tupN {S : Sto} {Q : PK1} {neg : Bool} {i : Nat} {l : List Nat} : inP neg (iN i) (tupN l) S Q = Q (.bl (neg ^^ decide (i ∈ l))) S := by
  have h1 : dat S (iN i) = some (.int i) := rfl
  have h2 : dat S (tupN l) = _ := dat_tupN 5 l
  simp only [inP, h1, h2, any_intN]
/-- the numbers with which a place is in a row -/
def nums (p : List Ord) (i n : Nat) : List Nat := (List.range (n + 1)).filter fun t => decide (i ∈ stp p 0 t)
theorem enum_rows (p : List Ord) (n : Nat) : enumL ((rows p n).map rolN) = (List.range (n + 1)).map fun t => .tup [iN t, rolN (stp p 0 t)] := by
  unfold enumL rows
  rw [List.map_map]
  apply List.ext_getElem?
  intro i
  simp only [List.getElem?_map, List.getElem?_zipIdx]
  cases h : (List.range (n + 1))[i]? with
  | none => rfl
  | some t =>
    obtain ⟨h1, h2⟩ := List.getElem?_eq_some_iff.mp h
    simp at h2
    subst h2
    simp
def c_steps : Con := fun xs S Q => ∃ (p : List Ord) (i n : Nat), xs = [encP p, iN i, iN n] ∧ Prog p 60 ∧ i < p.length ∧ n ≤ 200 ∧ Q (tupN (nums p i n)) S
theorem v_steps (xs S Q) (h : c_steps xs S Q) : wSs (pvAt [.int 200]) (conAt [pc f_need_program, c_need_place, pc f_need_whole, c_rows]) C14.a_steps_to (rets Q) (startP 5 xs) S := by
  obtain ⟨p, i, n, rfl, hp, hi, hn, q⟩ := h
  simp [C14.a_steps_to]
  refine needp_at hp (Nat.le_refl _) ?_
  refine ⟨p, i, rfl, hi, ?_⟩
  refine needw_at (by omega) ?_
  refine ⟨p, n, rfl, hp, by omega, ?_⟩
  simp
  rw [enum_rows]
  refine lf_filter _ (fun t => decide (i ∈ stp p 0 t)) iN (List.range (n + 1)) (by simp; omega) trivial (fun t ht k hk => ?_) ?_
  · simp
    rw [inP_rolN]
    simp only [Bool.false_xor, truQ_bl]
    by_cases hh : i ∈ stp p 0 t <;> simp [hh] at hk ⊢ <;> exact hk
  · exact ret_here q
/-! the law's own rows -/
def dkv (ks : List Nat) : List (L2.Key × PV) := ks.map fun n : Nat => (Sum.inl (n : Int), PV.bl true)
def addN (ks : List Nat) (k : Nat) : List Nat := if k ∈ ks then ks else ks ++ [k]
theorem put_dkv (ks : List Nat) (k : Nat) : putP (dkv ks) (Sum.inl (k : Int)) (.bl true) = dkv (addN ks k) := by
  have ha : ((dkv ks).any fun kv => decide (kv.1 = Sum.inl (k : Int))) = decide (k ∈ ks) := by
    unfold dkv
    rw [List.any_map]
    induction ks with
    | nil => rfl
    | cons a l ih =>
      rw [List.any_cons, ih]
      by_cases h : k = a
      · subst h; simp
      · have h2 : ¬ ((a : Int) = (k : Int)) := by omega
        simp [h, h2]
  unfold putP addN
  rw [ha]
  by_cases h : k ∈ ks
  · rw [if_pos (by simpa using h), if_pos h]
    unfold dkv
    rw [List.map_map]
    refine List.map_congr_left fun n _ => ?_
    simp only [Function.comp]
    split <;> rfl
  · rw [if_neg (by simpa using h), if_neg h]
    unfold dkv
    rw [List.map_append]; rfl
theorem addN_mem {ks : List Nat} {k j : Nat} : j ∈ addN ks k ↔ j ∈ ks ∨ j = k := by
  unfold addN
  split
  · rename_i h
    constructor
    · exact .inl
    · rintro (e | rfl)
      · exact e
      · exact h
  · simp
theorem addN_nodup {ks : List Nat} {k : Nat} (h : ks.Nodup) : (addN ks k).Nodup := by
  unfold addN
  split
  · exact h
  · rename_i hk
    rw [List.nodup_append]
    refine ⟨h, by simp, ?_⟩
    intro a ha b hb e
    simp at hb
    subst hb; subst e; exact hk ha
theorem keyInts_dkv (ks : List Nat) : keyInts ((dkv ks).map (·.1)) = some (ks.map fun x : Nat => (x : Int)) := by
  unfold dkv
  rw [List.map_map]
  induction ks with
  | nil => rfl
  | cons a l ih =>
    rw [List.map_cons, List.map_cons]
    show (keyInts (l.map _)).map _ = _
    rw [ih]; rfl
theorem isort_nodup {ks : List Nat} (h : ks.Nodup) : isort (ks.map fun x : Nat => (x : Int)) = (nsort ks).map fun x : Nat => (x : Int) := by
  refine (isort_of (l' := (nsort ks).map fun x : Nat => (x : Int)) ?_ ?_).symm
  · have nd : (nsort ks).Nodup := (nsort_sorted ks).imp fun h e => by omega
    exact ((List.perm_ext_iff_of_nodup nd h).mpr fun k => nsort_mem).map _
  · rw [List.pairwise_map]
    exact (nsort_sorted ks).imp fun h => by omega
theorem sort_dkv {S : Sto} {Q : PK1} {a : Addr} {ks : List Nat} (h : S a = some (.dK (dkv ks))) (nd : ks.Nodup) (hl : ks.length < 64) (q : Q (rolN (nsort ks)) S) : bltFP .sorted [.ref a] S Q := by
  unfold bltFP
  have e : (listP (.ref a) S).bind intsP = none := by simp only [listP, h]; rfl
  simp only [e, h, keyInts_dkv]
  refine ⟨by simpa using hl, ?_⟩
  rw [isort_nodup nd, map_iN]; exact q
theorem sort_dic {S : Sto} {Q : PK1} {ks : List Nat} (nd : ks.Nodup) (hl : ks.length < 64) (q : Q (rolN (nsort ks)) S) : bltFP .sorted [.dic (dkv ks)] S Q := by
  unfold bltFP
  have e : (listP (.dic (dkv ks)) S).bind intsP = none := rfl
  simp only [e, keyInts_dkv]
  refine ⟨by simpa using hl, ?_⟩
  rw [isort_nodup nd, map_iN]; exact q
theorem nodup_lt {ks : List Nat} {m : Nat} (nd : ks.Nodup) (h : ∀ k ∈ ks, k < m) : ks.length ≤ m := by
  have := List.Nodup.length_le_of_subset (l₁ := ks) (l₂ := List.range m) nd fun k hk => by rw [List.mem_range]; exact h k hk
  simpa using this
/-- what a loop over next places puts into a dict -/
theorem fo_put {p : List Ord} {E : Addr} {S : Sto} {Q : Nv → Sto → Prop} {body : PV → Nv → Sto → (Nv → Sto → Prop) → Prop} {Gd : Sto → Prop} {ρ0 : Nv} (J : Nv → Prop) (l : List Nat) (ks : List Nat) (hJ : J ρ0) (hg : ∀ S, Gd S)
    (hb : ∀ (a : Nat) ρ ks2 (k : Nv → Sto → Prop), J ρ → ks2.Nodup → (∀ j ∈ ks2, j ∈ ks ∨ j ∈ l) → (∀ ρ2, J ρ2 → k ρ2 (updS S E (.dK (dkv (addN ks2 a))))) → body (iN a) ρ (updS S E (.dK (dkv ks2))) fun ρ2 S2 => ∃ S3, SubS S3 S2 ∧ k ρ2 S3)
    (nd : ks.Nodup) (q : ∀ ρ ks2, J ρ → ks2.Nodup → (∀ j, j ∈ ks2 ↔ j ∈ ks ∨ j ∈ l) → Q ρ (updS S E (.dK (dkv ks2)))) : foP Gd body Q (l.map iN) ρ0 (updS S E (.dK (dkv ks))) := by
  refine fo_map iN (fun (pre : List Nat) ρ S2 => J ρ ∧ ∃ ks2, S2 = updS S E (.dK (dkv ks2)) ∧ ks2.Nodup ∧ ∀ j, j ∈ ks2 ↔ j ∈ ks ∨ j ∈ pre) l _ _ ⟨hJ, ks, rfl, nd, by simp⟩ (fun _ _ _ _ => hg _) ?_ ?_
  · rintro pre a post ρ S2 k hpre ⟨hj, ks2, rfl, nd2, hm⟩ next
    refine hb a ρ ks2 k hj nd2 (fun j hj => ((hm j).mp hj).imp id fun h => by rw [hpre]; exact List.mem_append_left _ h) fun ρ2 hj2 => next ρ2 _ ⟨hj2, addN ks2 a, rfl, addN_nodup nd2, fun j => ?_⟩
    rw [addN_mem, hm, List.mem_append, List.mem_singleton]
    constructor
    · rintro ((h | h) | h)
      · exact .inl h
      · exact .inr (.inl h)
      · exact .inr (.inr h)
    · rintro (h | h | h)
      · exact .inl (.inl h)
      · exact .inl (.inr h)
      · exact .inr h
  · rintro ρ S2 ⟨hj, ks2, rfl, nd2, hm⟩
    exact q ρ ks2 hj nd2 hm
def c_lawrows : Con := fun xs S Q => ∃ (p : List Ord) (n : Nat), xs = [encP p, iN n] ∧ Prog p 60 ∧ n ≤ 1000 ∧ Q (.tup ((rows p n).map tupN)) S
theorem rows_lastT (p : List Ord) (n : Nat) : L2.atI ((rows p n).map tupN) (-1) = some (tupN (stp p 0 n)) := by
  rw [atI_m1]
  unfold rows
  rw [List.range_succ, List.map_append, List.map_append]
  simp
theorem v_lawrows (xs S Q) (h : c_lawrows xs S Q) : wSs (pvAt []) (conAt [c_next]) C14.a_law_rows (rets Q) (startP 7 xs) S := by
  obtain ⟨p, n, rfl, hp, hn, q⟩ := h
  have h60 := hp.le
  have h1 := hp.one
  simp [C14.a_law_rows]
  intro D hD
  refine ⟨by omega, ?_⟩
  rw [rng_iN]
  refine fo_map _ (fun (pre : List Nat) ρ S2 => S2 = updS S D (.lst ((rows p pre.length).map tupN)) ∧ ∃ x3 x4 x5 x6, ρ = [some (encP p), some (iN n), some (.ref D), x3, x4, x5, x6]) _ _ _ ⟨rfl, _, _, _, _, rfl⟩ (fun _ _ _ _ => trivial) ?_ ?_
  · rintro pre i post ρ S2 k hpre ⟨rfl, x3, x4, x5, x6, rfl⟩ next
    have hpl : pre.length < n := by
      have := congrArg List.length hpre
      simp at this; omega
    simp
    intro E hE
    have hED : D ≠ E := ne_free updS_same hE
    rw [idxP_lst (h := by rw [updS_ne hED]; exact updS_same) (rows_lastT p pre.length)]
    simp
    have e0 : (PO.dK []) = .dK (dkv []) := rfl
    rw [e0]
    obtain ⟨T, hT⟩ : ∃ T, T = updS S D (.lst ((rows p pre.length).map tupN)) := ⟨_, rfl⟩
    rw [← hT] at hE ⊢
    refine fo_map iN (fun (pr : List Nat) ρ S2 => (∃ x5 x6, ρ = [some (encP p), some (iN n), some (.ref D), some (iN i), some (.ref E), x5, x6]) ∧ ∃ ks, S2 = updS T E (.dK (dkv ks)) ∧ ks.Nodup ∧ ∀ j, j ∈ ks ↔ j ∈ pr.flatMap (nx p)) (stp p 0 pre.length) _ _ ⟨⟨_, _, rfl⟩, [], rfl, List.nodup_nil, by simp⟩ (fun _ _ _ _ => trivial) ?_ ?_
    · rintro pr a po ρ S2 k2 hpr ⟨⟨x5, x6, rfl⟩, ks, rfl, nd, hm⟩ next2
      have ha : a < p.length := stp_lt hp (by omega : 0 < p.length) pre.length a (by rw [hpr]; simp)
      simp
      refine ⟨p, a, rfl, hp, ha, ?_⟩
      refine fo_put (p := p) (fun ρ => ∃ x6, ρ = [some (encP p), some (iN n), some (.ref D), some (iN i), some (.ref E), some (iN a), x6]) (nx p a) ks ⟨_, rfl⟩ (fun _ => trivial) ?_ nd ?_
      · rintro b ρ ks2 k3 ⟨x6, rfl⟩ nd2 hm2 next3
        simp
        rw [put_dK updS_same (k := Sum.inl (b : Int)) rfl, put_dkv, updS_updS]
        refine ⟨?_, _, SubS.refl _, next3 _ ⟨_, rfl⟩⟩
        have : ks2.length ≤ p.length := nodup_lt nd2 fun j hj => by
          rcases hm2 j hj with h | h
          · obtain ⟨z, _, hz⟩ := List.mem_flatMap.mp ((hm j).mp h)
            exact nx_lt hp hz
          · exact nx_lt hp h
        simp [dkv]; omega
      · rintro ρ ks2 ⟨x6, rfl⟩ nd2 hm2
        refine ⟨_, SubS.refl _, next2 _ _ ⟨⟨_, _, rfl⟩, ks2, rfl, nd2, fun j => ?_⟩⟩
        rw [hm2, hm, List.flatMap_append, List.mem_append]
        simp
    · rintro ρ S2 ⟨⟨x5, x6, rfl⟩, ks, rfl, nd, hm⟩
      have hks : ∀ j ∈ ks, j < p.length := fun j hj => by
        obtain ⟨z, _, hz⟩ := List.mem_flatMap.mp ((hm j).mp hj)
        exact nx_lt hp hz
      have hTD : T D = some (.lst ((rows p pre.length).map tupN)) := by rw [hT]; exact updS_same
      have hTDE : (updS T E (.dK (dkv ks))) D = some (.lst ((rows p pre.length).map tupN)) := by rw [updS_ne hED]; exact hTD
      simp
      refine ⟨⟨_, hTDE⟩, ?_⟩
      refine sort_dkv updS_same nd (by have := nodup_lt nd hks; omega) ?_
      simp
      rw [mth_append hTDE]
      refine ⟨by rw [sizeLine_val]; simp [rows]; omega, updS S D (.lst ((rows p (pre.length + 1)).map tupN)), ?_, next _ _ ⟨by simp, _, _, _, _, rfl⟩⟩
      have e1 : nsort ks = stp p 0 (pre.length + 1) := nsort_eq hm
      rw [e1]
      have e2 : (rows p pre.length).map tupN ++ [tupN (stp p 0 (pre.length + 1))] = (rows p (pre.length + 1)).map tupN := by
        unfold rows
        rw [List.range_succ (n := pre.length + 1), List.map_append, List.map_append]; rfl
      rw [e2]
      have : updS (updS T E (.dK (dkv ks))) D (.lst ((rows p (pre.length + 1)).map tupN)) = updS (updS S D (.lst ((rows p (pre.length + 1)).map tupN))) E (.dK (dkv ks)) := by
        rw [hT, updS_comm hED.symm, updS_updS]
      rw [this]
      refine (SubS.refl _).fresh ?_
      rw [hT] at hE
      rw [updS_ne hED.symm] at hE ⊢; exact hE
  · rintro ρ S2 ⟨rfl, x3, x4, x5, x6, rfl⟩
    simp
    exact ⟨S, (SubS.refl S).fresh hD, q⟩
end PL.Cm

set_option maxRecDepth 100000
set_option linter.all false
set_option maxHeartbeats 4000000
namespace PL.Cm
open PySem PySem.Spec
@[simp] theorem itemsP_dic {kvs : List (L2.Key × PV)} {S : Sto} : itemsP (.dic kvs) S = none := rfl
@[simp] theorem listP_dic {kvs : List (L2.Key × PV)} {S : Sto} : listP (.dic kvs) S = none := rfl
theorem stp_succ {p : List Ord} {i j t : Nat} : j ∈ stp p i (t + 1) ↔ ∃ k, k ∈ stp p i t ∧ j ∈ nx p k := by
  rw [stp, nsort_mem, List.mem_flatMap]
theorem stp_add {p : List Ord} {i j a : Nat} : ∀ b, (j ∈ stp p i (a + b) ↔ ∃ k, k ∈ stp p i a ∧ j ∈ stp p k b)
  | 0 => by
    constructor
    · intro h; exact ⟨j, h, by simp [stp]⟩
    · rintro ⟨k, h1, h2⟩
      simp [stp] at h2; subst h2; exact h1
  | b + 1 => by
    rw [show a + (b + 1) = (a + b) + 1 by omega, stp_succ]
    constructor
    · rintro ⟨u, h1, h2⟩
      obtain ⟨k, h3, h4⟩ := (stp_add b).mp h1
      exact ⟨k, h3, stp_succ.mpr ⟨u, h4, h2⟩⟩
    · rintro ⟨k, h1, h2⟩
      obtain ⟨u, h3, h4⟩ := stp_succ.mp h2
      exact ⟨u, (stp_add b).mpr ⟨k, h1, h3⟩, h4⟩
theorem stp_one {p : List Ord} {i j : Nat} : j ∈ stp p i 1 ↔ j ∈ nx p i := by
  rw [stp_succ]
  constructor
  · rintro ⟨k, h1, h2⟩; simp [stp] at h1; subst h1; exact h2
  · intro h; exact ⟨i, by simp [stp], h⟩
abbrev dicN (ks : List Nat) : PV := .dic (dkv ks)
structure Reach (p : List Ord) (s : Nat) (out : List (List Nat)) : Prop where
  len : out.length = p.length
  mem : ∀ i ks, out[i]? = some ks → ks.Nodup ∧ ∀ j, j ∈ ks ↔ j ∈ stp p i s
def c_from : Con := fun xs S Q => ∃ (p : List Ord) (e : Nat), xs = [encP p, iN (2 ^ e)] ∧ Prog p 60 ∧ e ≤ 9 ∧ ∀ out, Reach p (2 ^ e) out → Q (.rol (out.map dicN)) S
theorem merge_dkv : ∀ (l ks : List Nat), (l.map fun n : Nat => ((Sum.inl (n : Int) : L2.Key), PV.bl true)).foldl (fun acc kv => putP acc kv.1 kv.2) (dkv ks) = dkv (l.foldl addN ks)
  | [], _ => rfl
  | a :: l, ks => by
    rw [List.map_cons, List.foldl_cons, List.foldl_cons]
    show List.foldl _ (putP (dkv ks) (Sum.inl (a : Int)) (.bl true)) _ = _
    rw [put_dkv, merge_dkv l]
theorem foldl_addN : ∀ (l ks : List Nat), ks.Nodup → (l.foldl addN ks).Nodup ∧ ∀ j, j ∈ l.foldl addN ks ↔ j ∈ ks ∨ j ∈ l
  | [], ks, h => ⟨h, by simp⟩
  | a :: l, ks, h => by
    obtain ⟨h1, h2⟩ := foldl_addN l (addN ks a) (addN_nodup h)
    refine ⟨h1, fun j => ?_⟩
    rw [List.foldl_cons, h2, addN_mem, List.mem_cons]
    constructor
    · rintro ((h | h) | h)
      · exact .inl h
      · exact .inr (.inl h)
      · exact .inr (.inr h)
    · rintro (h | h | h)
      · exact .inl (.inl h)
      · exact .inl (.inr h)
      · exact .inr h
theorem prs_dkv : ∀ l : List Nat, prsP (l.map fun n => .tup [iN n, .bl true]) = some (l.map fun n : Nat => (Sum.inl (n : Int), PV.bl true))
  | [] => rfl
  | a :: l => by
    rw [List.map_cons, List.map_cons]
    show (match keyOf (iN a), prsP (l.map fun n => .tup [iN n, .bl true]) with
      | some k, some l => some ((k, PV.bl true) :: l)
      | _, _ => none) = _
    rw [prs_dkv l]; rfl
theorem keys_dkv (ks : List Nat) : ((dkv ks).map fun kv => pvK kv.1) = ks.map iN := by
  unfold dkv
  rw [List.map_map]; rfl
def lf2 : List Sm := C14.a_law_from.drop 2
theorem v_from (xs S Q) (h : c_from xs S Q) : wSs (pvAt []) (conAt [c_next]) C14.a_law_from (rets Q) (startP 10 xs) S := by
  obtain ⟨p, e, rfl, hp, he, q⟩ := h
  have h60 := hp.le
  have h1 := hp.one
  refine cut_at 2 (b := lf2) rfl ?_
  simp [C14.a_law_from]
  refine ⟨by omega, ?_⟩
  rw [rng_iN]
  refine lf_map iN (fun i => dicN ((nx p i).foldl addN [])) _ (by simp; omega) trivial (fun i hi k hk => ?_) ?_
  · refine ⟨p, i, rfl, hp, by simpa using hi, ?_⟩
    refine lf_map iN (fun n => .tup [iN n, .bl true]) _ (by have := nx_len (p := p) (i := i); rw [sizeLine_val]; omega) trivial (fun n hn k2 hk2 => ?_) ?_
    · simpa using hk2
    · show (match (listP (.rol ((nx p i).map fun n => .tup [iN n, .bl true])) _).bind prsP with
        | some kvs => _
        | none => False)
      rw [listP_rol]
      simp only [Option.bind_some, prs_dkv]
      have : mergeP ((nx p i).map fun n : Nat => (Sum.inl (n : Int), PV.bl true)) = dkv ((nx p i).foldl addN []) := merge_dkv (nx p i) []
      rw [this]; exact hk
  · have R1 : Reach p (2 ^ 0) ((List.range p.length).map fun i => (nx p i).foldl addN []) := by
      refine ⟨by simp, fun i ks hk => ?_⟩
      rw [List.getElem?_map] at hk
      cases hr : (List.range p.length)[i]? with
      | none => rw [hr] at hk; cases hk
      | some u =>
        rw [hr] at hk
        obtain ⟨h1, h2⟩ := List.getElem?_eq_some_iff.mp hr
        simp at h2
        subst h2
        simp at hk
        subst hk
        obtain ⟨a, b⟩ := foldl_addN (nx p i) [] List.nodup_nil
        refine ⟨a, fun j => ?_⟩
        rw [b]
        show _ ↔ j ∈ stp p i 1
        rw [stp_one]; simp
    rw [show (List.range p.length).map (fun i => dicN ((nx p i).foldl addN [])) = ((List.range p.length).map fun i => (nx p i).foldl addN []).map dicN by rw [List.map_map]; rfl]
    generalize ((List.range p.length).map fun i => (nx p i).foldl addN []) = out0 at R1
    simp [lf2, C14.a_law_from]
    refine ⟨e + 1, wh_by (fun m ρ S2 => S2 = S ∧ ∃ d out x3 x4 x6 x7 x8 x9, m = e - d ∧ d ≤ e ∧ Reach p (2 ^ d) out ∧ ρ = [some (encP p), some (iN (2 ^ e)), some (.rol (out.map dicN)), x3, x4, some (iN (2 ^ d)), x6, x7, x8, x9]) ?_ _ e _ _ (by omega) ⟨rfl, 0, out0, _, _, _, _, _, _, by omega, by omega, R1, rfl⟩⟩
    rintro m ρ S2 k ⟨rfl, d, out, x3, x4, x6, x7, x8, x9, rfl, hd, R, rfl⟩ next
    simp
    split
    · rename_i hlt
      have hde : d < e := by
        apply Classical.byContradiction
        intro hc
        have : d = e := by omega
        subst this
        exact absurd hlt (Int.lt_irrefl _)
      intro L hL
      refine fo_map dicN (fun (pr : List (List Nat)) ρ S3 => ∃ res x3 x4 x7 x8 x9, S3 = updS S2 L (.lst (res.map dicN)) ∧ ρ = [some (encP p), some (iN (2 ^ e)), some (.rol (out.map dicN)), x3, x4, some (iN (2 ^ d)), some (.ref L), x7, x8, x9] ∧ res.length = pr.length ∧ ∀ i ks, res[i]? = some ks → ks.Nodup ∧ ∀ j, j ∈ ks ↔ j ∈ stp p i (2 ^ (d + 1))) out _ _ ⟨[], _, _, _, _, _, rfl, rfl, rfl, by simp⟩ (fun _ _ _ _ => trivial) ?_ ?_
      · rintro pr ks po ρ S3 k2 hpr ⟨res, x3, x4, x7, x8, x9, rfl, rfl, hres, hm⟩ next2
        have hi : pr.length < p.length := by
          have := congrArg List.length hpr
          rw [R.len] at this
          simp at this; omega
        have hks := R.mem pr.length ks (by rw [hpr]; simp)
        simp
        intro E hE
        have hLE : L ≠ E := ne_free updS_same hE
        have hkk := keys_dkv ks
        simp only [pvK] at hkk
        rw [hkk]
        obtain ⟨T, hT⟩ : ∃ T, T = updS S2 L (.lst (res.map dicN)) := ⟨_, rfl⟩
        rw [← hT] at hE ⊢
        have e0 : (PO.dK []) = .dK (dkv []) := rfl
        rw [e0]
        have hbig : ∀ j, j ∈ stp p pr.length (2 ^ (d + 1)) ↔ ∃ k, k ∈ ks ∧ j ∈ stp p k (2 ^ d) := fun j => by
          rw [Nat.pow_succ, Nat.mul_two, stp_add]
          constructor
          · rintro ⟨k, a, b⟩; exact ⟨k, (hks.2 k).mpr a, b⟩
          · rintro ⟨k, a, b⟩; exact ⟨k, (hks.2 k).mp a, b⟩
        refine fo_map iN (fun (pm : List Nat) ρ S4 => (∃ x4 x9, ρ = [some (encP p), some (iN (2 ^ e)), some (.rol (out.map dicN)), x3, x4, some (iN (2 ^ d)), some (.ref L), some (dicN ks), some (.ref E), x9]) ∧ ∃ ts, S4 = updS T E (.dK (dkv ts)) ∧ ts.Nodup ∧ ∀ j, j ∈ ts ↔ ∃ k, k ∈ pm ∧ j ∈ stp p k (2 ^ d)) ks _ _ ⟨⟨_, _, rfl⟩, [], rfl, List.nodup_nil, by simp⟩ (fun _ _ _ _ => trivial) ?_ ?_
        · rintro pm mid po2 ρ S4 k3 hpm ⟨⟨x4, x9, rfl⟩, ts, rfl, nd, hts⟩ next3
          have hmk : mid ∈ ks := by rw [hpm]; simp
          have hml : mid < p.length := stp_lt hp hi _ mid ((hks.2 mid).mp hmk)
          obtain ⟨us, hus⟩ : ∃ us, out[mid]? = some us := ⟨out[mid]'(by rw [R.len]; exact hml), List.getElem?_eq_getElem _⟩
          obtain ⟨nu, mu⟩ := R.mem mid us hus
          simp [hus]
          have hku := keys_dkv us
          simp only [pvK] at hku
          rw [hku]
          refine fo_put (p := p) (fun ρ => ∃ x4, ρ = [some (encP p), some (iN (2 ^ e)), some (.rol (out.map dicN)), x3, x4, some (iN (2 ^ d)), some (.ref L), some (dicN ks), some (.ref E), some (iN mid)]) us ts ⟨_, rfl⟩ (fun _ => trivial) ?_ nd ?_
          · rintro b ρ ks2 k4 ⟨x4, rfl⟩ nd2 hm2 next4
            simp
            rw [put_dK updS_same (k := Sum.inl (b : Int)) rfl, put_dkv, updS_updS]
            refine ⟨?_, _, SubS.refl _, next4 _ ⟨_, rfl⟩⟩
            have : ks2.length ≤ p.length := nodup_lt nd2 fun j hj => by
              rcases hm2 j hj with h | h
              · obtain ⟨z, hz1, hz2⟩ := (hts j).mp h
                have hzk : z ∈ ks := by rw [hpm]; exact List.mem_append_left _ hz1
                exact stp_lt hp (stp_lt hp hi _ z ((hks.2 z).mp hzk)) _ j hz2
              · exact stp_lt hp hml _ j ((mu j).mp h)
            simp [dkv]; omega
          · rintro ρ ks2 ⟨x4, rfl⟩ nd2 hm2
            refine ⟨_, SubS.refl _, next3 _ _ ⟨⟨_, _, rfl⟩, ks2, rfl, nd2, fun j => ?_⟩⟩
            rw [hm2, hts, mu]
            constructor
            · rintro (⟨k, a, b⟩ | h)
              · exact ⟨k, List.mem_append_left _ a, b⟩
              · exact ⟨mid, by simp, h⟩
            · rintro ⟨k, a, b⟩
              rcases List.mem_append.mp a with a | a
              · exact .inl ⟨k, a, b⟩
              · simp at a; subst a; exact .inr b
        · rintro ρ S4 ⟨⟨x4, x9, rfl⟩, ts, rfl, nd, hts⟩
          have hTL : T L = some (.lst (res.map dicN)) := by rw [hT]; exact updS_same
          have hTLE : (updS T E (.dK (dkv ts))) L = some (.lst (res.map dicN)) := by rw [updS_ne hLE]; exact hTL
          simp
          refine ⟨⟨_, hTLE⟩, ?_⟩
          have hfr : ∀ Q, frzP (.ref E) (updS T E (.dK (dkv ts))) Q = Q (dicN ts) T := fun Q => by
            unfold frzP
            simp only [updS_same]
            rw [dropS_new hE]
          rw [hfr, mth_append hTL]
          refine ⟨by rw [sizeLine_val]; simp; omega, _, SubS.refl _, next2 _ _ ⟨res ++ [ts], _, _, _, _, _, ?_, rfl, by simp [hres], fun i us hu => ?_⟩⟩
          · rw [hT, updS_updS, List.map_append]; rfl
          · by_cases hii : i < res.length
            · rw [List.getElem?_append_left hii] at hu
              exact hm i us hu
            · have : i = res.length := by
                have := (List.getElem?_eq_some_iff.mp hu).1
                simp at this; omega
              subst this
              simp at hu
              subst hu
              refine ⟨nd, fun j => ?_⟩
              rw [hts, hres, hbig]
      · rintro ρ S3 ⟨res, x3, x4, x7, x8, x9, rfl, rfl, hres, hm⟩
        simp
        have hfr : ∀ Q, frzP (.ref L) (updS S2 L (.lst (res.map dicN))) Q = Q (.rol (res.map dicN)) S2 := fun Q => by
          rw [frz_at updS_same, dropS_new hL]
        rw [hfr]
        have e2 : (2 : Int) * 2 ^ d = ((2 ^ (d + 1) : Nat) : Int) := by rw [Int.natCast_pow, Int.pow_succ, Int.mul_comm]; rfl
        rw [e2]
        exact ⟨S2, SubS.refl _, next (e - (d + 1)) _ _ (by omega) ⟨rfl, d + 1, res, _, _, _, _, _, _, rfl, by omega, ⟨hres.trans R.len, hm⟩, rfl⟩⟩
    · rename_i hlt
      have hde : d = e := by
        apply Classical.byContradiction
        intro hc
        have h1 : d < e := by omega
        have : (2 : Nat) ^ d < 2 ^ e := Nat.pow_lt_pow_right (by decide) h1
        exact hlt (by exact_mod_cast this)
      subst hde
      exact ret_here (q out R)
end PL.Cm

set_option maxRecDepth 100000
set_option linter.all false
set_option maxHeartbeats 4000000
namespace PL.Cm
open PySem PySem.Spec
abbrev Tr := Nat × Nat × Nat
def trV (t : Tr) : PV := if t.2.2 = 0 then .non else iN t.2.1
def encT (T : List Tr) : List (L2.Key × PV) := T.map fun t => (Sum.inl (t.1 : Int), trV t)
def Way (p : List Ord) : List Nat → Prop
  | a :: b :: r => b ∈ nx p a ∧ Way p (b :: r)
  | _ => True
/-- what the search holds: nodes met, with whence and how deep; the first h have been looked at -/
structure Bfs (p : List Ord) (i : Nat) (T : List Tr) (h : Nat) : Prop where
  hl : h ≤ T.length
  zero : ∃ x, T[0]? = some (i, x, 0)
  nd : (T.map (·.1)).Nodup
  lt : ∀ t ∈ T, t.1 < p.length
  dep : ∀ t ∈ T, t.1 ∈ stp p i t.2.2
  par : ∀ (k w u d : Nat), T[k]? = some (w, u, d) → (k = 0 ∧ d = 0 ∧ w = i) ∨ ∃ (d' x k' : Nat), d = d' + 1 ∧ k' < k ∧ T[k']? = some (u, x, d') ∧ w ∈ nx p u
  srt : ∀ (k k' : Nat) (t t' : Tr), k ≤ k' → T[k]? = some t → T[k']? = some t' → t.2.2 ≤ t'.2.2
  top : ∀ (t' : Tr), T[h]? = some t' → ∀ t ∈ T, t.2.2 ≤ t'.2.2 + 1
  don : ∀ (k : Nat), k < h → ∀ (t : Tr), T[k]? = some t → ∀ v ∈ nx p t.1, ∃ t' ∈ T, t'.1 = v ∧ t'.2.2 ≤ t.2.2 + 1
theorem Bfs.start {p : List Ord} {i : Nat} (hi : i < p.length) : Bfs p i [(i, 0, 0)] 0 where
  hl := Nat.zero_le _
  zero := ⟨0, rfl⟩
  nd := by simp
  lt := by simp [hi]
  dep := by simp [stp]
  par := fun k w u d h => by
    cases k with
    | zero => simp at h; exact .inl ⟨rfl, h.2.2.symm, h.1.symm⟩
    | succ k => simp at h
  srt := fun k k' t t' _ h h' => by
    cases k with
    | zero => simp at h; subst h; exact Nat.zero_le _
    | succ k => simp at h
  top := fun t' h t ht => by simp at ht; subst ht; exact Nat.zero_le _
  don := fun k hk => absurd hk (Nat.not_lt_zero _)
/-- one node more, of the one that is looked at -/
theorem Bfs.add {p : List Ord} {m i : Nat} {T : List Tr} {h u x d w : Nat} (hp : Prog p m) (B : Bfs p i T h) (hh : T[h]? = some (u, x, d)) (hw : w ∈ nx p u) (hn : w ∉ T.map (·.1)) : Bfs p i (T ++ [(w, u, d + 1)]) h := by
  have hlt : h < T.length := (List.getElem?_eq_some_iff.mp hh).1
  have hu : (u, x, d) ∈ T := List.mem_iff_getElem?.mpr ⟨h, hh⟩
  have get : ∀ k t, (T ++ [(w, u, d + 1)])[k]? = some t → T[k]? = some t ∨ (k = T.length ∧ t = (w, u, d + 1)) := fun k t e => by
    by_cases hk : k < T.length
    · rw [List.getElem?_append_left hk] at e; exact .inl e
    · have : k = T.length := by
        have := (List.getElem?_eq_some_iff.mp e).1
        simp at this; omega
      subst this
      simp at e
      exact .inr ⟨rfl, e.symm⟩
  refine ⟨by simp; exact Nat.le_trans B.hl (Nat.le_succ _), ?_, ?_, ?_, ?_, ?_, ?_, ?_, ?_⟩
  · obtain ⟨y, hy⟩ := B.zero
    exact ⟨y, by rw [List.getElem?_append_left (by omega)]; exact hy⟩
  · rw [List.map_append, List.nodup_append]
    refine ⟨B.nd, by simp, fun a ha b hb e => ?_⟩
    simp at hb; subst hb; subst e; exact hn ha
  · intro t ht
    rcases List.mem_append.mp ht with ht | ht
    · exact B.lt t ht
    · simp at ht; subst ht; exact nx_lt hp hw
  · intro t ht
    rcases List.mem_append.mp ht with ht | ht
    · exact B.dep t ht
    · simp at ht; subst ht
      exact stp_succ.mpr ⟨u, B.dep _ hu, hw⟩
  · intro k w' u' d' e
    rcases get k _ e with e | ⟨hk, e⟩
    · rcases B.par k w' u' d' e with h | ⟨d2, x2, k2, h1, h2, h3, h4⟩
      · exact .inl h
      · exact .inr ⟨d2, x2, k2, h1, h2, by rw [List.getElem?_append_left (by have := (List.getElem?_eq_some_iff.mp h3).1; omega)]; exact h3, h4⟩
    · cases e
      exact .inr ⟨d, x, h, rfl, by omega, by rw [List.getElem?_append_left hlt]; exact hh, hw⟩
  · intro k k' t t' hk e e'
    rcases get k _ e with e | ⟨hk1, e⟩
    · rcases get k' _ e' with e' | ⟨hk2, e'⟩
      · exact B.srt k k' t t' hk e e'
      · subst e'; exact B.top _ hh t (List.mem_iff_getElem?.mpr ⟨k, e⟩)
    · rcases get k' _ e' with e' | ⟨hk2, e'⟩
      · have := (List.getElem?_eq_some_iff.mp e').1; omega
      · subst e; subst e'; exact Nat.le_refl _
  · intro t' e t ht
    rw [List.getElem?_append_left hlt, hh] at e
    cases e
    rcases List.mem_append.mp ht with ht | ht
    · exact B.top _ hh t ht
    · simp at ht; subst ht; exact Nat.le_refl _
  · intro k hk t e v hv
    rw [List.getElem?_append_left (by omega)] at e
    obtain ⟨t', h1, h2⟩ := B.don k hk t e v hv
    exact ⟨t', List.mem_append_left _ h1, h2⟩
/-- all next ones are met: the next node -/
theorem Bfs.next {p : List Ord} {i : Nat} {T : List Tr} {h u x d : Nat} (B : Bfs p i T h) (hh : T[h]? = some (u, x, d)) (ha : ∀ v ∈ nx p u, ∃ t' ∈ T, t'.1 = v ∧ t'.2.2 ≤ d + 1) : Bfs p i T (h + 1) := by
  have hlt : h < T.length := (List.getElem?_eq_some_iff.mp hh).1
  refine ⟨hlt, B.zero, B.nd, B.lt, B.dep, B.par, B.srt, fun t' e t ht => ?_, fun k hk t e v hv => ?_⟩
  · have h1 := B.top _ hh t ht
    have h2 := B.srt h (h + 1) _ _ (Nat.le_succ _) hh e
    exact Nat.le_trans h1 (Nat.succ_le_succ h2)
  · by_cases hk2 : k < h
    · exact B.don k hk2 t e v hv
    · have : k = h := by omega
      subst this
      rw [hh] at e; cases e
      exact ha v hv
/-- what is near enough is met -/
theorem Bfs.met {p : List Ord} {i : Nat} {T : List Tr} {h : Nat} (B : Bfs p i T h) : ∀ t w, w ∈ stp p i t → (∀ t', T[h]? = some t' → t ≤ t'.2.2) → ∃ r ∈ T, r.1 = w ∧ r.2.2 ≤ t
  | 0, w, hw, _ => by
    simp [stp] at hw
    subst hw
    obtain ⟨x, hx⟩ := B.zero
    exact ⟨_, List.mem_iff_getElem?.mpr ⟨0, hx⟩, rfl, Nat.le_refl _⟩
  | t + 1, w, hw, hd => by
    obtain ⟨u, h1, h2⟩ := stp_succ.mp hw
    obtain ⟨r, hr, e, hr2⟩ := Bfs.met B t u h1 fun t' e => by have := hd t' e; omega
    obtain ⟨k, hk⟩ := List.mem_iff_getElem?.mp hr
    have hkh : k < h := by
      apply Classical.byContradiction
      intro hc
      have hl := (List.getElem?_eq_some_iff.mp hk).1
      have hhl : h < T.length := by omega
      have := B.srt h k _ _ (by omega) (List.getElem?_eq_getElem hhl) hk
      have := hd _ (List.getElem?_eq_getElem hhl)
      omega
    subst e
    obtain ⟨t', a, b, c⟩ := B.don k hkh r hk w h2
    exact ⟨t', a, b, by omega⟩
theorem Bfs.one {p : List Ord} {i : Nat} {T : List Tr} {h : Nat} (B : Bfs p i T h) {r s : Tr} (hr : r ∈ T) (hs : s ∈ T) (e : r.1 = s.1) : r = s := by
  obtain ⟨k, hk⟩ := List.mem_iff_getElem?.mp hr
  obtain ⟨k', hk'⟩ := List.mem_iff_getElem?.mp hs
  have a : (T.map (·.1))[k]? = some r.1 := by rw [List.getElem?_map, hk]; rfl
  have b : (T.map (·.1))[k']? = some r.1 := by rw [List.getElem?_map, hk', e]; rfl
  have hkl := (List.getElem?_eq_some_iff.mp a)
  have hkl' := (List.getElem?_eq_some_iff.mp b)
  obtain ⟨l1, e1⟩ := hkl
  obtain ⟨l2, e2⟩ := hkl'
  have : k = k' := (List.getElem_inj B.nd).mp (e1.trans e2.symm)
  subst this
  rw [hk] at hk'; cases hk'; rfl
/-- the depth of a node met is the least number of steps -/
theorem Bfs.least {p : List Ord} {i : Nat} {T : List Tr} {h : Nat} (B : Bfs p i T h) {r : Tr} (hr : r ∈ T) {t : Nat} (ht : t < r.2.2) : r.1 ∉ stp p i t := fun hc => by
  obtain ⟨s, hs, e, hs2⟩ := B.met t r.1 hc fun t' e => by
    have := B.top t' e r hr; omega
  have := B.one hr hs e.symm
  subst this
  omega
theorem Bfs.never {p : List Ord} {i j : Nat} {T : List Tr} (B : Bfs p i T T.length) (hj : j ∉ T.map (·.1)) (t : Nat) : j ∉ stp p i t := fun hc => by
  obtain ⟨s, hs, e, _⟩ := B.met t j hc fun t' e => by simp at e
  exact hj (List.mem_map.mpr ⟨s, hs, e⟩)
theorem Bfs.len {p : List Ord} {i : Nat} {T : List Tr} {h : Nat} (B : Bfs p i T h) : T.length ≤ p.length := by
  have := nodup_lt B.nd (m := p.length) fun k hk => by
    obtain ⟨t, ht, e⟩ := List.mem_map.mp hk
    subst e; exact B.lt t ht
  simpa using this
theorem Bfs.deep {p : List Ord} {i : Nat} {T : List Tr} {h : Nat} (B : Bfs p i T h) : ∀ (k : Nat) (t : Tr), T[k]? = some t → t.2.2 ≤ k
  | k, (w, u, d), e => by
    rcases B.par k w u d e with ⟨_, h, _⟩ | ⟨d', x, k', h1, h2, h3, _⟩
    · show d ≤ k; omega
    · have := Bfs.deep B k' _ h3
      show d ≤ k
      have : d' ≤ k' := this
      omega
end PL.Cm

set_option maxRecDepth 100000
set_option linter.all false
set_option maxHeartbeats 4000000
namespace PL.Cm
open PySem PySem.Spec
def Least (p : List Ord) (i j t : Nat) : Prop := j ∈ stp p i t ∧ ∀ s, s < t → j ∉ stp p i s
theorem val_encT_none {T : List Tr} {w : Nat} (h : w ∉ T.map (·.1)) : valP (encT T) (Sum.inl (w : Int)) = none := by
  induction T with
  | nil => rfl
  | cons a T ih =>
    rw [List.map_cons, List.mem_cons] at h
    have h1 : ¬ (a.1 : Int) = (w : Int) := by
      intro e
      exact h (.inl (by omega))
    have := ih fun hc => h (.inr hc)
    unfold valP encT at this ⊢
    rw [List.map_cons, List.find?_cons_of_neg (by simpa using h1)]
    exact this
theorem val_encT {T : List Tr} {r : Tr} (nd : (T.map (·.1)).Nodup) (h : r ∈ T) : valP (encT T) (Sum.inl (r.1 : Int)) = some (trV r) := by
  induction T with
  | nil => cases h
  | cons a T ih =>
    rw [List.map_cons, List.nodup_cons] at nd
    rcases List.mem_cons.mp h with rfl | h
    · unfold valP encT
      rw [List.map_cons, List.find?_cons_of_pos (by simp)]; rfl
    · have h1 : ¬ (a.1 : Int) = (r.1 : Int) := by
        intro e
        have : a.1 = r.1 := by omega
        exact nd.1 (List.mem_map.mpr ⟨r, h, this.symm⟩)
      have := ih nd.2 h
      unfold valP encT at this ⊢
      rw [List.map_cons, List.find?_cons_of_neg (by simpa using h1)]
      exact this
theorem put_encT {T : List Tr} {w u d : Nat} (h : w ∉ T.map (·.1)) : putP (encT T) (Sum.inl (w : Int)) (iN u) = encT (T ++ [(w, u, d + 1)]) := by
  have ha : ((encT T).any fun kv => decide (kv.1 = Sum.inl (w : Int))) = false := by
    rw [List.any_eq_false]
    intro kv hk
    obtain ⟨r, hr, rfl⟩ := List.mem_map.mp hk
    have : ¬ (r.1 : Int) = (w : Int) := fun e => h (List.mem_map.mpr ⟨r, hr, by omega⟩)
    simpa using this
  unfold putP
  rw [ha, if_neg (by simp)]
  unfold encT
  rw [List.map_append]; rfl
theorem inP_encT {S : Sto} {Q : PK1} {A : Addr} {neg : Bool} {T : List Tr} {w : Nat} (h : S A = some (.dK (encT T))) (nd : (T.map (·.1)).Nodup) : inP neg (iN w) (.ref A) S Q = Q (.bl (neg ^^ decide (w ∈ T.map (·.1)))) S := by
  have e : dgetP (.dK (encT T)) (iN w) = some (valP (encT T) (Sum.inl (w : Int))) := rfl
  simp only [inP, h, e]
  by_cases hw : w ∈ T.map (·.1)
  · obtain ⟨r, hr, rfl⟩ := List.mem_map.mp hw
    rw [val_encT nd hr, decide_eq_true hw]; rfl
  · rw [val_encT_none hw, decide_eq_false hw]; rfl
theorem eqP_line {S : Sto} {Q : PK1} {B : Addr} {l : List Nat} (h : S B = some (.lst (l.map iN))) : eqP true (.ref B) (.rol []) S Q = Q (.bl (decide (l ≠ []))) S := by
  have h1 : dat S (.ref B) = some (.list (l.map fun x : Nat => PyData.int (x : Int))) := by
    show datF 7 S _ = _
    unfold datF
    simp only [h]
    rw [List.map_map, allSome_map (datF 6 S ∘ iN) (fun x : Nat => PyData.int (x : Int)) l fun a _ => rfl]; rfl
  rw [eqP_at h1 (e := .list []) rfl]
  cases l with
  | nil => rfl
  | cons a l => rfl
theorem mth_pop0 {S : Sto} {Q : PK1} {B : Addr} {a : PV} {l : List PV} (h : S B = some (.lst (a :: l))) : mthP .popAt (.ref B) [.int 0] S Q = Q a (updS S B (.lst l)) := by
  have e : seqIndex? 0 (a :: l).length = some 0 := by
    unfold seqIndex?
    simp
  simp only [mthP, h, e]
  simp
def c_way : Con := fun xs S Q => ∃ (p : List Ord) (i j : Nat), xs = [.rol ((List.range p.length).map fun i => rolN (nx p i)), iN i, iN j] ∧ Prog p 60 ∧ i < p.length ∧ j < p.length ∧ ((∀ t, j ∉ stp p i t) → Q .non S) ∧ ∀ (w : List Nat) t, w.length = t + 1 → t < p.length → Least p i j t → Q (tupN w) S
def wa2 : List Sm := C14.a_way_in.drop 2
def wa4 : List Sm := C14.a_way_in.drop 4
theorem way_end {S S2 : Sto} {Q : PK1} {p : List Ord} {i j : Nat} {T : List Tr} {h : Nat} {A : Addr} {x0 x1 x4 x5 x6 : Option PV} (hA : S2 A = some (.dK (encT T))) (hs : SubS S S2) (B1 : Bfs p i T h) (hfin : j ∈ T.map (·.1) ∨ h = T.length) (h60 : p.length ≤ 60)
    (q1 : (∀ t, j ∉ stp p i t) → Q .non S) (q2 : ∀ (w : List Nat) t, w.length = t + 1 → t < p.length → Least p i j t → Q (tupN w) S) :
    wSs (pvAt []) (conAt []) wa2 (rets Q) [x0, x1, some (iN j), some (.ref A), x4, x5, x6, none] S2 := by
  refine cut_at 2 (b := wa4) rfl ?_
  obtain ⟨W4, hW4⟩ : ∃ W, W = wa4 := ⟨_, rfl⟩
  rw [← hW4]
  simp [wa2, C14.a_way_in]
  rw [inP_encT hA B1.nd]
  by_cases hmem : j ∈ T.map (·.1)
  · rw [decide_eq_true hmem]
    simp
    intro C hC
    obtain ⟨r, hr, hrj⟩ := List.mem_map.mp hmem
    obtain ⟨kk, hkk⟩ := List.mem_iff_getElem?.mp hr
    have hkl : kk < T.length := (List.getElem?_eq_some_iff.mp hkk).1
    have hdep : r.2.2 < p.length := by
      have h1 := B1.deep kk r hkk
      have h2 := B1.len
      omega
    have hAC : C ≠ A := fun e => by rw [e, hA] at hC; cases hC
    subst hW4
    simp [wa4, C14.a_way_in]
    refine ⟨p.length + 1, wh_by (fun m ρ S3 => ∃ (w : List Nat) (s : Tr), s ∈ T ∧ m = s.2.2 ∧ w.length + s.2.2 = r.2.2 + 1 ∧ w.getLast? = some s.1 ∧ S3 = updS S2 C (.lst (w.map iN)) ∧ ρ = [x0, x1, some (iN j), some (.ref A), x4, x5, x6, some (.ref C)]) ?_ _ r.2.2 _ _ (by omega) ⟨[j], r, hr, rfl, by simp; omega, by simp [hrj], rfl, rfl⟩⟩
    rintro m ρ S3 k ⟨w, s, hs1, rfl, hlen, hlast, rfl, rfl⟩ next
    have hat : L2.atI (w.map iN) (-1) = some (iN s.1) := by rw [atI_m1, List.getLast?_map, hlast]; rfl
    have hA3 : ∀ o, (updS S2 C o) A = some (.dK (encT T)) := fun o => by rw [updS_ne hAC.symm]; exact hA
    simp
    rw [idxP_lst updS_same hat]
    rw [idxP_dK (hA3 _) (k := Sum.inl (s.1 : Int)) rfl (val_encT B1.nd hs1)]
    by_cases hd : s.2.2 = 0
    · have e : trV s = .non := by unfold trV; rw [if_pos hd]
      rw [e]
      simp
      unfold revP
      simp
      intro D hD
      refine frz_new ?_ D hD
      rw [← List.map_reverse]
      refine ⟨S, hs.fresh hC, ?_⟩
      refine q2 w.reverse r.2.2 (by rw [List.length_reverse]; omega) hdep ⟨?_, ?_⟩
      · rw [← hrj]; exact B1.dep r hr
      · rw [← hrj]; exact fun t ht => B1.least hr ht
    · have e : trV s = iN s.2.1 := by unfold trV; rw [if_neg hd]
      rw [e]
      simp
      rw [idxP_lst updS_same hat]
      rw [idxP_dK (hA3 _) (k := Sum.inl (s.1 : Int)) rfl (val_encT B1.nd hs1), e, mth_append updS_same]
      refine ⟨by rw [sizeLine_val]; simp; omega, _, SubS.refl _, ?_⟩
      rw [updS_updS]
      obtain ⟨s0, s1, s2⟩ := s
      obtain ⟨ks, hks⟩ := List.mem_iff_getElem?.mp hs1
      rcases B1.par ks s0 s1 s2 hks with ⟨_, h0, _⟩ | ⟨d', x', k', h1, h2, h3, h4⟩
      · exact absurd h0 hd
      · have hm3 : (s1, x', d') ∈ T := List.mem_iff_getElem?.mpr ⟨k', h3⟩
        exact next d' _ _ (by show d' < s2; omega) ⟨w ++ [s1], (s1, x', d'), hm3, rfl, by simp at hlen ⊢; omega, by simp, by rw [List.map_append]; rfl, rfl⟩
  · rw [decide_eq_false hmem]
    simp
    have : h = T.length := hfin.resolve_left hmem
    subst this
    exact ⟨S, hs, q1 (B1.never hmem)⟩
theorem v_way (xs S Q) (h : c_way xs S Q) : wSs (pvAt []) (conAt []) C14.a_way_in (rets Q) (startP 8 xs) S := by
  obtain ⟨p, i, j, rfl, hp, hi, hj, q1, q2⟩ := h
  have h60 := hp.le
  refine cut_at 2 (b := wa2) rfl ?_
  obtain ⟨W2, hW2⟩ : ∃ W, W = wa2 := ⟨_, rfl⟩
  rw [← hW2]
  simp [C14.a_way_in]
  intro A hA
  show _ ∧ _
  refine ⟨Nat.le_of_ble_eq_true rfl, fun B hB => ?_⟩
  have hAB : A ≠ B := ne_free updS_same hB
  rw [updS_updS] at hB ⊢
  have hSB : S B = none := by rw [updS_ne hAB.symm] at hB; exact hB
  refine ⟨p.length + 1, wh_by (fun m ρ S2 => ∃ T h ln x5 x6, m = p.length - h ∧ Bfs p i T h ∧ ln = (T.map (·.1)).drop h ∧ S2 = updS (updS S A (.dK (encT T))) B (.lst (ln.map iN)) ∧ ρ = [some (.rol ((List.range p.length).map fun i => rolN (nx p i))), some (iN i), some (iN j), some (.ref A), some (.ref B), x5, x6, none]) ?_ _ (p.length - 0) _ _ (by omega) ⟨[(i, 0, 0)], 0, [i], _, _, rfl, Bfs.start hi, rfl, rfl, rfl⟩⟩
  rintro m ρ S2 k ⟨T, h, ln, x5, x6, rfl, B1, hln, rfl, rfl⟩ next
  simp
  have getA : ∀ T2 : List Tr, ∀ o, (updS (updS S A (.dK (encT T2))) B o) A = some (.dK (encT T2)) := fun T2 o => by rw [updS_ne hAB, updS_same]
  have hput : ∀ (T2 T3 : List Tr) o, updS (updS (updS S A (.dK (encT T2))) B o) A (.dK (encT T3)) = updS (updS S A (.dK (encT T3))) B o := fun T2 T3 o => by rw [updS_comm hAB.symm, updS_updS]
  rw [eqP_line updS_same]
  simp
  by_cases hne : ln = []
  · subst hne
    simp
    subst hW2
    have hh : h = T.length := by
      have h1 := congrArg List.length hln
      have h2 := B1.hl
      simp at h1; omega
    exact way_end (getA _ _) (((SubS.refl S).fresh hA).fresh (by rw [updS_ne hAB.symm]; exact hSB)) B1 (.inr hh) h60 q1 q2
  · obtain ⟨c, l2, rfl⟩ : ∃ c l2, ln = c :: l2 := by
      cases ln with
      | nil => exact absurd rfl hne
      | cons c l2 => exact ⟨c, l2, rfl⟩
    simp
    rw [inP_encT (getA _ _) B1.nd]
    by_cases hmem : j ∈ T.map (·.1)
    · rw [decide_eq_true hmem]
      simp
      subst hW2
      exact way_end (getA _ _) (((SubS.refl S).fresh hA).fresh (by rw [updS_ne hAB.symm]; exact hSB)) B1 (.inl hmem) h60 q1 q2
    · rw [decide_eq_false hmem]
      simp
      rw [mth_pop0 updS_same]
      have hhl : h < T.length := by
        apply Classical.byContradiction
        intro hc
        have : (T.map (·.1)).drop h = [] := List.drop_eq_nil_of_le (by simp; omega)
        rw [this] at hln; cases hln
      obtain ⟨⟨u, x, d⟩, hr⟩ : ∃ r, T[h]? = some r := ⟨_, List.getElem?_eq_getElem hhl⟩
      have hcu : (T.map (·.1)).drop h = u :: (T.map (·.1)).drop (h + 1) := by
        have : (T.map (·.1))[h]? = some u := by rw [List.getElem?_map, hr]; rfl
        obtain ⟨hl, e⟩ := List.getElem?_eq_some_iff.mp this
        rw [List.drop_eq_getElem_cons hl, e]
      rw [hcu] at hln
      obtain ⟨hc, hl2⟩ := List.cons.inj hln
      subst hc
      have hul : c < p.length := B1.lt _ (List.mem_iff_getElem?.mpr ⟨h, hr⟩)
      simp [hul]
      rw [updS_updS]
      refine fo_map iN (fun (pre : List Nat) ρ S2 => ∃ T2 ln x6, Bfs p i T2 h ∧ T2[h]? = some (c, x, d) ∧ ln = (T2.map (·.1)).drop (h + 1) ∧ (∀ v ∈ pre, ∃ t' ∈ T2, t'.1 = v ∧ t'.2.2 ≤ d + 1) ∧ S2 = updS (updS S A (.dK (encT T2))) B (.lst (ln.map iN)) ∧ ρ = [some (.rol ((List.range p.length).map fun i => rolN (nx p i))), some (iN i), some (iN j), some (.ref A), some (.ref B), some (iN c), x6, none]) (nx p c) _ _ ⟨T, l2, _, B1, hr, hl2, by simp, rfl, rfl⟩ (fun _ _ _ _ => trivial) ?_ ?_
      · rintro pre v post ρ S3 k2 hpre ⟨T2, l3, y6, B2, hr2, hl3, hdone, rfl, rfl⟩ next2
        have hv : v ∈ nx p c := by rw [hpre]; simp
        have hhl2 : h < T2.length := (List.getElem?_eq_some_iff.mp hr2).1
        simp
        rw [inP_encT (getA _ _) B2.nd]
        by_cases hm : v ∈ T2.map (·.1)
        · rw [decide_eq_true hm]
          simp
          refine ⟨_, SubS.refl _, next2 _ _ ⟨T2, l3, _, B2, hr2, hl3, fun v' hv' => ?_, rfl, rfl⟩⟩
          rcases List.mem_append.mp hv' with hv' | hv'
          · exact hdone v' hv'
          · simp at hv'; subst hv'
            obtain ⟨t', ht, e⟩ := List.mem_map.mp hm
            exact ⟨t', ht, e, B2.top _ hr2 t' ht⟩
        · rw [decide_eq_false hm]
          simp
          rw [put_dK (getA _ _) (k := Sum.inl (v : Int)) rfl, put_encT (d := d) hm, hput]
          have B3 := B2.add hp hr2 hv hm
          have hlen3 := B3.len
          simp at hlen3
          have hl3l : l3.length ≤ T2.length := by rw [hl3]; simp
          refine ⟨by simp [encT]; omega, ⟨_, updS_same⟩, ?_⟩
          rw [mth_append updS_same, updS_updS]
          refine ⟨by rw [sizeLine_val]; simp; omega, _, SubS.refl _, next2 _ _ ⟨T2 ++ [(v, c, d + 1)], l3 ++ [v], _, B3, by rw [List.getElem?_append_left hhl2]; exact hr2, ?_, fun v' hv' => ?_, by rw [List.map_append]; rfl, rfl⟩⟩
          · rw [hl3, List.map_append, List.drop_append_of_le_length (by simp; omega)]; rfl
          · rcases List.mem_append.mp hv' with hv' | hv'
            · obtain ⟨t', a, b⟩ := hdone v' hv'
              exact ⟨t', List.mem_append_left _ a, b⟩
            · simp at hv'; subst hv'
              exact ⟨(v', c, d + 1), by simp, rfl, Nat.le_refl _⟩
      · rintro ρ S3 ⟨T2, l3, y6, B2, hr2, hl3, hdone, rfl, rfl⟩
        have hhl2 : h < T2.length := (List.getElem?_eq_some_iff.mp hr2).1
        have hlen := B2.len
        exact ⟨_, SubS.refl _, next (p.length - (h + 1)) _ _ (by omega) ⟨T2, h + 1, l3, _, _, rfl, B2.next hr2 hdone, hl3, rfl, rfl⟩⟩
end PL.Cm

set_option maxRecDepth 100000
set_option linter.all false
set_option maxHeartbeats 4000000
namespace PL.Cm
open PySem PySem.Spec
def c_short : Con := fun xs S Q => ∃ (p : List Ord) (i j : Nat), xs = [encP p, iN i, iN j] ∧ Prog p 60 ∧ i < p.length ∧ j < p.length ∧ ((∀ t, j ∉ stp p i t) → Q .non S) ∧ ∀ (w : List Nat) t, w.length = t + 1 → t < p.length → Least p i j t → Q (tupN w) S
theorem v_short (xs S Q) (h : c_short xs S Q) : wSs (pvAt []) (conAt [pc f_need_program, c_need_place, c_way, c_all_next]) C14.a_shortest_way (rets Q) (startP 3 xs) S := by
  obtain ⟨p, i, j, rfl, hp, hi, hj, q1, q2⟩ := h
  simp [C14.a_shortest_way]
  refine needp_at hp (Nat.le_refl _) ?_
  refine ⟨p, i, rfl, hi, ?_⟩
  refine ⟨p, j, rfl, hj, ?_⟩
  refine ⟨p, rfl, hp, ?_⟩
  exact ⟨p, i, j, rfl, hp, hi, hj, fun h => ret_here (q1 h), fun w t h1 h2 h3 => ret_here (q2 w t h1 h2 h3)⟩
mutual
theorem likeB_refl : ∀ (n : Nat) (x : PV), pln n x = true → likeB x x = true
  | n, .ref _, h => by cases n <;> simp [pln] at h
  | n, .dic _, h => by cases n <;> simp [pln] at h
  | _, .non, _ => rfl
  | _, .bl b, _ => by simp [likeB]
  | _, .int b, _ => by simp [likeB]
  | _, .str b, _ => by simp [likeB]
  | 0, .tup _, h => by simp [pln] at h
  | 0, .rol _, h => by simp [pln] at h
  | n + 1, .tup xs, h => by
    simp only [pln, Bool.and_eq_true] at h
    simp only [likeB]
    exact likeL_refl n xs h.2
  | n + 1, .rol xs, h => by
    simp only [pln, Bool.and_eq_true] at h
    simp only [likeB]
    exact likeL_refl n xs h.2
theorem likeL_refl : ∀ (n : Nat) (xs : List PV), plnL n xs = true → likeL xs xs = true
  | _, [], _ => by simp [likeL]
  | n, x :: xs, h => by
    simp only [plnL, Bool.and_eq_true] at h
    simp only [likeL, Bool.and_eq_true]
    exact ⟨likeB_refl n x h.1, likeL_refl n xs h.2⟩
end
theorem like_same {n : Nat} {x : PV} {S : Sto} {Q : PK1} (hx : pln n x = true) (q : Q (.bl true) S) : pc (f_like n) [x, x] S Q :=
  like_at hx hx (by rw [likeB_refl n x hx]; exact q)
theorem pln_iN {n i : Nat} : pln n (iN i) = true := by cases n <;> rfl
theorem pln_tupN {n : Nat} {l : List Nat} (h : l.length ≤ 100000) : pln (n + 1) (tupN l) = true := by
  simp only [pln, Bool.and_eq_true, decide_eq_true_eq]
  refine ⟨by simpa using h, plnL_of fun x hx => ?_⟩
  obtain ⟨i, _, rfl⟩ := List.mem_map.mp hx
  exact pln_iN
theorem pln_tups {n : Nat} {ls : List (List Nat)} (h : ls.length ≤ 100000) (h2 : ∀ l ∈ ls, l.length ≤ 100000) : pln (n + 2) (.tup (ls.map tupN)) = true := by
  simp only [pln, Bool.and_eq_true, decide_eq_true_eq]
  refine ⟨by simpa using h, plnL_of fun x hx => ?_⟩
  obtain ⟨i, hi, rfl⟩ := List.mem_map.mp hx
  exact pln_tupN (h2 i hi)
theorem eqvAll_ints : ∀ l : List Nat, PyData.eqvAll (l.map fun x : Nat => PyData.int (x : Int)) (l.map fun x : Nat => PyData.int (x : Int)) = true
  | [] => rfl
  | a :: l => by
    rw [List.map_cons]
    unfold PyData.eqvAll
    rw [eqvAll_ints l]
    show (((a : Int) == (a : Int)) && true) = true
    simp
theorem eqP_tupN {S : Sto} {Q : PK1} {neg : Bool} {l : List Nat} : eqP neg (tupN l) (tupN l) S Q = Q (.bl (neg ^^ true)) S := by
  rw [eqP_at (dat_tupN 5 l) (dat_tupN 5 l)]
  have : PyData.eqv (.tuple (l.map fun x : Nat => PyData.int (x : Int))) (.tuple (l.map fun x : Nat => PyData.int (x : Int))) = true := by
    unfold PyData.eqv
    exact eqvAll_ints l
  rw [this]
theorem rows_at {p : List Ord} {n t : Nat} (h : t ≤ n) : (rows p n)[t]? = some (stp p 0 t) := by
  have ht : t < n + 1 := Nat.lt_succ_of_le h
  unfold rows
  rw [List.getElem?_map, List.getElem?_range ht]; rfl
theorem rows_len {p : List Ord} {n : Nat} : (rows p n).length = n + 1 := by simp [rows]
theorem rows_take {p : List Ord} {n m : Nat} (h : n ≤ m) : (rows p m).take (n + 1) = rows p n := by
  unfold rows
  rw [← List.map_take, List.take_range, Nat.min_eq_left (Nat.succ_le_succ h)]
theorem rows_short {p : List Ord} {m n : Nat} (hp : Prog p m) : ∀ l ∈ rows p n, l.length ≤ p.length := fun l hl => by
  obtain ⟨t, _, rfl⟩ := List.mem_map.mp hl
  have := hp.one
  exact stp_len hp (by omega) t
theorem nums_mem {p : List Ord} {i n t : Nat} : t ∈ nums p i n ↔ t ≤ n ∧ i ∈ stp p 0 t := by
  unfold nums
  rw [List.mem_filter, List.mem_range, decide_eq_true_eq, Nat.lt_succ_iff]
theorem nums_len {p : List Ord} {i n : Nat} : (nums p i n).length ≤ n + 1 :=
  Nat.le_trans (List.length_filter_le _ _) (by simp)
theorem nums_none {p : List Ord} {i n : Nat} (h : ∀ t, i ∉ stp p 0 t) : nums p i n = [] := by
  cases e : nums p i n with
  | nil => rfl
  | cons a l => exact absurd (nums_mem.mp (by rw [e]; exact List.mem_cons_self : a ∈ nums p i n)).2 (h a)
theorem nums_first {p : List Ord} {i n t : Nat} (h : Least p 0 i t) (ht : t ≤ n) : ∃ l, nums p i n = t :: l := by
  have hm : t ∈ nums p i n := nums_mem.mpr ⟨ht, h.1⟩
  have hs : (nums p i n).Pairwise (· < ·) := List.Pairwise.filter _ List.pairwise_lt_range
  cases e : nums p i n with
  | nil => rw [e] at hm; cases hm
  | cons a l =>
    rw [e] at hm hs
    rcases List.mem_cons.mp hm with rfl | hm
    · exact ⟨l, rfl⟩
    · have h1 := (List.pairwise_cons.mp hs).1 t hm
      exact absurd (nums_mem.mp (by rw [e]; exact List.mem_cons_self : a ∈ nums p i n)).2 (h.2 a h1)
theorem due_at {p : List Ord} {i n : Nat} {S : Sto} {Q : PK1} (hn : n ≤ 200) (q : Q (rolN (nums p i n)) S) : lfP (fun _ => True) (fun x S k => idxP (.tup ((rows p 200).map tupN)) x S fun y S2 => inP false (.int (i : Int)) y S2 (truQ fun b S3 => if b = true then k (some x) S3 else k none S3)) Q (rngL 0 ((n : Int) + 1)) [] S := by
  have e : rngL 0 ((n : Int) + 1) = (List.range (n + 1)).map iN := rng_iN (n + 1)
  rw [e]
  refine lf_filter iN (fun t => decide (i ∈ stp p 0 t)) iN (List.range (n + 1)) (by simp; omega) trivial (fun t ht k hk => ?_) q
  have ht2 : t ≤ 200 := by have := List.mem_range.mp ht; omega
  have hra : (rows p 200)[t]? = some (stp p 0 t) := rows_at ht2
  simp [hra]
  rw [inP_tupN]
  simp only [Bool.false_xor, truQ_bl]
  by_cases hh : i ∈ stp p 0 t <;> simp [hh] at hk ⊢ <;> exact hk
theorem eqP_row {S : Sto} {Q : PK1} {neg : Bool} {l : List Nat} : eqP neg (rolN l) (.rol []) S Q = Q (.bl (neg ^^ l.isEmpty)) S := by
  rw [eqP_nil (dat_rolN 5 l)]
  cases l <;> rfl
def c_right14 : Con := fun xs S Q => ∃ c p, xs = [.ref c, encP p] ∧ Prog p 60 ∧ CupIs S c ∧ ∀ S', Cup S c S' → Q (.bl true) S'
def rt2 : List Sm := C14.a_law_right.drop 2
def rt3 : List Sm := C14.a_law_right.drop 3
theorem v_right14 (xs S Q) (h : c_right14 xs S Q) : wSs (pvAt []) (conAt [c_lawrows, c_like 5, c_flow, c_from, c_some, c_roll, c_next, c_leads, c_steps, c_short]) C14.a_law_right (rets Q) (startP 11 xs) S := by
  obtain ⟨c, p, rfl, hp, hc, q⟩ := h
  have h60 := hp.le
  have h1 := hp.one
  refine cut_at 2 (b := rt2) rfl ?_
  obtain ⟨W2, hW2⟩ : ∃ W, W = rt2 := ⟨_, rfl⟩
  rw [← hW2]
  simp [C14.a_law_right]
  refine ⟨p, 200, rfl, hp, by omega, ?_⟩
  refine ⟨p, 200, rfl, hp, by omega, ?_⟩
  have hrl : (rows p 200).length = 201 := rows_len
  have hrs : ∀ l ∈ rows p 200, l.length ≤ 100000 := fun l hl => by have := rows_short hp l hl; omega
  refine like_same (pln_tups (by omega) hrs) ?_
  simp
  subst hW2
  refine cut_at 1 (b := rt3) rfl ?_
  obtain ⟨W3, hW3⟩ : ∃ W, W = rt3 := ⟨_, rfl⟩
  rw [← hW3]
  simp [rt2, C14.a_law_right]
  have el : [PV.int 64, .int 128] = ([64, 128] : List Nat).map iN := rfl
  rw [el]
  refine fo_map iN (fun (pre : List Nat) ρ S2 => S2 = S ∧ ∃ x3, ρ = [some (.ref c), some (encP p), some (.tup ((rows p 200).map tupN)), x3, none, none, none, none, none, none, none]) [64, 128] _ _ ⟨rfl, _, rfl⟩ (fun _ _ _ _ => trivial) ?_ ?_
  · rintro pre m post ρ S2 k hpre ⟨rfl, x3, rfl⟩ next
    have hm : m = 64 ∨ m = 128 := by
      have : m ∈ ([64, 128] : List Nat) := by rw [hpre]; simp
      simpa using this
    obtain ⟨e, he, hme⟩ : ∃ e, e ≤ 9 ∧ m = 2 ^ e := by
      rcases hm with rfl | rfl
      · exact ⟨6, by decide, rfl⟩
      · exact ⟨7, by decide, rfl⟩
    have hra : (rows p 200)[m]? = some (stp p 0 m) := rows_at (by omega)
    simp [hra]
    refine ⟨p, e, by rw [hme], hp, he, fun out R => ?_⟩
    obtain ⟨ks, hks⟩ : ∃ ks, out[0]? = some ks := ⟨out[0]'(by rw [R.len]; omega), List.getElem?_eq_getElem _⟩
    obtain ⟨nd, hmem⟩ := R.mem 0 ks hks
    simp [hks]
    have hkl : ks.length < 64 := by
      have := nodup_lt nd fun k hk => stp_lt hp (by omega : 0 < p.length) _ k ((hmem k).mp hk)
      omega
    refine sort_dic nd hkl ?_
    have e1 : nsort ks = stp p 0 m := by
      obtain ⟨t, ht⟩ : ∃ t, m = t + 1 := ⟨m - 1, by omega⟩
      rw [ht]
      refine nsort_eq (l' := (stp p 0 t).flatMap (nx p)) fun k => ?_
      rw [hmem, ← hme, ht]
      exact nsort_mem
    rw [e1, blt_tup_rol, eqP_tupN]
    simp
    exact ⟨_, SubS.refl _, next _ _ ⟨rfl, _, rfl⟩⟩
  · rintro ρ S2 ⟨rfl, x3, rfl⟩
    subst hW3
    simp [rt3, C14.a_law_right]
    have hlen : ∀ S Q, bltP .len [encP p] S Q = Q (iN p.length) S := fun S Q => by simp [encP]
    have el : rngL 0 5 = ([0, 1, 2, 3, 4] : List Nat).map iN := rfl
    rw [el]
    refine fo_map iN (fun (pre : List Nat) ρ S3 => Cup S2 c S3 ∧ ∃ x4 x5 x6 x7 x8 x9 x10, ρ = [some (.ref c), some (encP p), some (.tup ((rows p 200).map tupN)), x3, x4, x5, x6, x7, x8, x9, x10]) [0, 1, 2, 3, 4] _ _ ⟨Cup.refl hc, _, _, _, _, _, _, _, rfl⟩ (fun _ _ _ _ => trivial) ?_ ?_
    · rintro pre m post ρ S3 k hpre ⟨u, x4, x5, x6, x7, x8, x9, x10, rfl⟩ next
      simp [hlen]
      refine roll_at u.is (by omega) (by omega) fun i S4 hi u2 => ?_
      have hi2 : i < p.length := by omega
      refine some_at u2.is (by simp) (by simp) fun y hy S5 u3 => ?_
      obtain ⟨n, hn, rfl⟩ : ∃ n : Nat, n ≤ 200 ∧ y = iN n := by
        simp only [List.mem_cons, List.not_mem_nil, or_false] at hy
        rcases hy with rfl | rfl | rfl | rfl | rfl
        · exact ⟨0, by omega, rfl⟩
        · exact ⟨1, by omega, rfl⟩
        · exact ⟨7, by omega, rfl⟩
        · exact ⟨60, by omega, rfl⟩
        · exact ⟨200, by omega, rfl⟩
      simp
      refine ⟨by omega, ?_⟩
      refine due_at hn ?_
      rw [blt_tup_rol]
      refine ⟨p, i, n, rfl, hp, hi2, hn, ?_⟩
      refine ⟨p, n, rfl, hp, hn, ?_⟩
      refine ⟨p, i, rfl, hp, hi2, ?_⟩
      refine ⟨p, i, rfl, hp, hi2, ?_⟩
      dsimp only
      rw [blt_tup_rol]
      have ecut : cutP (List.map tupN (rows p 200)) none (some ((n : Int) + 1)) = (rows p n).map tupN := by
        rw [show ((n : Int) + 1) = ((n + 1 : Nat) : Int) from rfl, cutTN, ← List.map_take, rows_take hn]
      rw [ecut]
      have hnl := nums_len (p := p) (i := i) (n := n)
      have hxl := nx_len (p := p) (i := i)
      have hpl : pln 4 (.rol [tupN (nums p i n), .tup ((rows p n).map tupN), tupN (nx p i)]) = true := by
        simp only [pln, Bool.and_eq_true, decide_eq_true_eq]
        refine ⟨by simp, plnL_of fun x hx => ?_⟩
        simp only [List.mem_cons, List.not_mem_nil, or_false] at hx
        rcases hx with rfl | rfl | rfl
        · exact pln_tupN (by omega)
        · exact pln_tups (by rw [rows_len]; omega) fun l hl => by have := rows_short hp l hl; omega
        · exact pln_tupN (by omega)
      refine like_same hpl ?_
      simp
      refine ⟨p, 0, i, rfl, hp, by omega, hi2, fun hnever => ?_, fun w t hw ht hleast => ?_⟩
      · refine due_at (n := 200) (Nat.le_refl _) ?_
        simp
        rw [eqP_row, nums_none (n := 200) hnever]
        simp
        refine like_same (n := 4) (x := .non) rfl ?_
        simp
        exact ⟨S5, SubS.refl _, next _ _ ⟨(u.trans u2).trans u3, _, _, _, _, _, _, _, rfl⟩⟩
      · refine due_at (n := 200) (Nat.le_refl _) ?_
        obtain ⟨l, hl⟩ := nums_first hleast (show t ≤ 200 by omega)
        have h0 : (nums p i 200)[0]? = some t := by rw [hl]; rfl
        simp [hw]
        rw [eqP_row]
        have h5 : (nums p i 200).isEmpty = false := by rw [hl]; rfl
        rw [h5]
        simp [h0]
        refine like_same (n := 4) (x := iN t) pln_iN ?_
        simp
        exact ⟨S5, SubS.refl _, next _ _ ⟨(u.trans u2).trans u3, _, _, _, _, _, _, _, rfl⟩⟩
    · rintro ρ S3 ⟨u, x4, x5, x6, x7, x8, x9, x10, rfl⟩
      exact ⟨S3, SubS.refl _, q S3 u⟩
end PL.Cm

set_option maxRecDepth 100000
set_option linter.all false
set_option maxHeartbeats 4000000
namespace PL.Cm
open PySem PySem.Spec
/-- rows one after the other -/
def rowsI (p : List Ord) : Nat → List Nat → List (List Nat)
  | 0, r => [r]
  | n + 1, r => r :: rowsI p n (nsort (r.flatMap (nx p)))
theorem rowsI_eq (p : List Ord) : ∀ n t, rowsI p n (stp p 0 t) = (List.range (n + 1)).map fun s => stp p 0 (t + s)
  | 0, t => rfl
  | n + 1, t => by
    have := rowsI_eq p n (t + 1)
    rw [List.range_succ_eq_map, List.map_cons, List.map_map]
    show stp p 0 t :: rowsI p n (stp p 0 (t + 1)) = _
    rw [this]
    congr 1
    refine List.map_congr_left fun s _ => ?_
    show stp p 0 (t + 1 + s) = stp p 0 (t + (s + 1))
    rw [Nat.add_right_comm, Nat.add_assoc]
def numsG (i : Nat) : Nat → List (List Nat) → List Nat
  | _, [] => []
  | t, r :: rs => if r.contains i then t :: numsG i (t + 1) rs else numsG i (t + 1) rs
theorem numsG_eq (p : List Ord) (i : Nat) : ∀ (n t : Nat), numsG i t (rowsI p n (stp p 0 t)) = ((List.range (n + 1)).map (t + ·)).filter fun t => decide (i ∈ stp p 0 t)
  | 0, t => by
    show (if (stp p 0 t).contains i then [t] else []) = _
    by_cases h : i ∈ stp p 0 t <;> simp [h]
  | n + 1, t => by
    have ih := numsG_eq p i n (t + 1)
    have e : (List.range (n + 1 + 1)).map (t + ·) = t :: (List.range (n + 1)).map (t + 1 + ·) := by
      rw [List.range_succ_eq_map, List.map_cons, List.map_map]
      congr 1
      refine List.map_congr_left fun s _ => ?_
      show t + (s + 1) = t + 1 + s
      omega
    rw [e, List.filter_cons, ← ih]
    show (if (stp p 0 t).contains i then t :: numsG i (t + 1) (rowsI p n (stp p 0 (t + 1))) else _) = _
    by_cases h : i ∈ stp p 0 t <;> simp [h] <;> rfl
def numsI (p : List Ord) (i n : Nat) : List Nat := numsG i 0 (rowsI p n [0])
theorem nums_I (p : List Ord) (i n : Nat) : nums p i n = numsI p i n := by
  have h := numsG_eq p i n 0
  have e : (List.range (n + 1)).map (0 + ·) = List.range (n + 1) := by
    have : (fun x => 0 + x) = (id : Nat → Nat) := by funext x; simp
    rw [this, List.map_id]
  rw [e] at h
  exact h.symm
def Ord.okb (m : Nat) : Ord → Bool
  | .put r n => decide (r < 4) && decide (n < 256)
  | .copy r s => decide (r < 4) && decide (s < 4)
  | .op _ r s => decide (r < 4) && decide (s < 4)
  | .load r s => decide (r < 4) && decide (s < 4)
  | .store r s => decide (r < 4) && decide (s < 4)
  | .ifo _ r s p => decide (r < 4) && (decide (s < 4) && decide (p < m))
  | .go p => decide (p < m)
  | .fin => true
  | .fault k => decide (k < 10)
theorem Prog.of {p : List Ord} {m : Nat} (h1 : 1 ≤ p.length) (h2 : p.length ≤ m) (h3 : p.all (Ord.okb p.length) = true) (h4 : p.getLast?.map Ord.last = some true) : Prog p m where
  one := h1
  le := h2
  ok := fun o ho => by
    have := List.all_eq_true.mp h3 o ho
    cases o <;> simp [Ord.okb] at this <;> simp [Ord.ok, this]
  last := by
    cases e : p.getLast? with
    | none => rw [e] at h4; cases h4
    | some o =>
      rw [e] at h4
      refine ⟨p.dropLast, o, ?_, by simpa using h4⟩
      have hne : p ≠ [] := by intro hc; subst hc; cases e
      have := List.dropLast_concat_getLast hne
      rw [List.getLast?_eq_some_getLast hne] at e
      cases e
      first | exact this.symm | (rw [this])
def P1 : List Ord := [.go 0]
def P2 : List Ord := [.ifo .same 3 3 0, .fin]
def P3 : List Ord := [.ifo .less 3 0 1, .fin]
def Ptwo : List Ord := [.ifo .same 0 3 2, .go 0, .copy 3 3, .go 0]
def Pstill : List Ord := (List.range 59).map (fun i => .ifo .less 3 2 i) ++ [.fault 9]
def Pring : List Ord := .ifo .same 0 1 2 :: (List.replicate 58 (.put 3 255) ++ [.go 0])
def Pline : List Ord := (List.range 40).map (fun i => .ifo .same 3 3 (i + 1)) ++ [.fin]
theorem p1 : Prog P1 60 := Prog.of (by decide) (by decide) (by decide) (by decide)
theorem p2 : Prog P2 60 := Prog.of (by decide) (by decide) (by decide) (by decide)
theorem p3 : Prog P3 60 := Prog.of (by decide) (by decide) (by decide) (by decide)
theorem ptwo : Prog Ptwo 60 := Prog.of (by decide) (by decide) (by decide) (by decide)
theorem pstill : Prog Pstill 60 := Prog.of (by decide +kernel) (by decide +kernel) (by decide +kernel) (by decide +kernel)
theorem pring : Prog Pring 60 := Prog.of (by decide +kernel) (by decide +kernel) (by decide +kernel) (by decide +kernel)
theorem pline : Prog Pline 60 := Prog.of (by decide +kernel) (by decide +kernel) (by decide +kernel) (by decide +kernel)
theorem still_step : ∀ k, k < 60 → nsort ((List.range (k + 1)).flatMap (nx Pstill)) = List.range (min (k + 2) 60) := by decide +kernel
theorem still_stp : ∀ t, stp Pstill 0 t = List.range (min (t + 1) 60)
  | 0 => by decide
  | t + 1 => by
    rw [stp, still_stp t]
    obtain ⟨k, hk⟩ : ∃ k, min (t + 1) 60 = k + 1 := ⟨min (t + 1) 60 - 1, by omega⟩
    rw [hk, still_step k (by omega)]
    congr 1
    omega
theorem nums_still (i n : Nat) : nums Pstill i n = (List.range (n + 1)).filter fun t => decide (i < min (t + 1) 60) := by
  unfold nums
  refine List.filter_congr fun t _ => ?_
  rw [still_stp]
  congr 1
  rw [List.mem_range]
theorem steps_at {p : List Ord} {i n : Nat} {S : Sto} {Q : PK1} (hp : Prog p 60) (hi : i < p.length) (hn : n ≤ 200) (q : Q (tupN (nums p i n)) S) : c_steps [encP p, iN i, iN n] S Q := ⟨p, i, n, rfl, hp, hi, hn, q⟩
theorem flow_at {p : List Ord} {n : Nat} {S : Sto} {Q : PK1} (hp : Prog p 60) (hn : n ≤ 200) (q : Q (.tup ((rows p n).map tupN)) S) : c_flow [encP p, iN n] S Q := ⟨p, n, rfl, hp, hn, q⟩
theorem row_at {p : List Ord} {n t : Nat} {S : Sto} {Q : PK1} (h : t ≤ n) (q : Q (tupN (stp p 0 t)) S) : idxP (.tup ((rows p n).map tupN)) (iN t) S Q := by
  rw [idxP_tup (v := tupN (stp p 0 t)) (by rw [atI_nat', List.getElem?_map, rows_at h]; rfl)]; exact q
theorem add_lit {S0 S : Sto} {Q : PK1} {a : Addr} {xs ys : List PV} (sub : SubS S0 S) (h : S a = some (.lst xs)) (hl : xs.length + ys.length ≤ sizeLine) (q : ∀ S' p, S0 p = none → SubS S0 S' → S' p = some (.lst (xs ++ ys)) → Q (.ref p) S') : ∀ D, S D = none → addP (.ref a) (.ref D) (updS S D (.lst ys)) Q := fun D hD => by
  have hne : a ≠ D := fun e => by rw [e, hD] at h; cases h
  have h2 : (updS S D (.lst ys)) a = some (.lst xs) := by rw [updS_ne hne]; exact h
  unfold addP
  simp only [h2, updS_same]
  refine ⟨hl, fun p hp => ?_⟩
  have hs : SubS S0 (updS S D (.lst ys)) := sub.fresh hD
  exact q _ p (hs.none hp) (hs.fresh hp) updS_same
def c_written14 : Con := fun xs S Q => xs = [] ∧ Q (.bl true) S
def w3 : List Sm := C14.a_law_written_right.drop 3
def w7 : List Sm := C14.a_law_written_right.drop 7
def w11 : List Sm := C14.a_law_written_right.drop 11
def w14 : List Sm := C14.a_law_written_right.drop 14
def T1 : List PV := [tupN (nums P1 0 200), tupN (stp P1 0 200), tupN (nums P2 1 200), tupN (nums P3 1 200), tupN (nums Ptwo 0 200), tupN (nums Ptwo 1 60), tupN (nums Ptwo 3 9), .tup ((rows Ptwo 7).map tupN)]
def T2 : List PV := [tupN (stp Pstill 0 30), tupN (stp Pstill 0 58), tupN (stp Pstill 0 59), tupN (stp Pstill 0 200), tupN (nums Pstill 59 200), tupN (nums Pstill 31 33)]
def T3 : List PV := [tupN (stp Pring 0 59), tupN (stp Pring 0 60), tupN (stp Pring 0 120), tupN (nums Pring 0 200), tupN (nums Pring 1 130)]
def T4 : List PV := [.tup ((rows Pline 41).map tupN), .rol (([0, 17, 40] : List Nat).map fun i => tupN (nums Pline i 200))]
def D1 : List PV := [.tup (rngL 0 201), .tup [.int 0], .tup (rngL 1 201), .tup [.int 1]] ++ [.tup (.int 0 :: rngL 2 201), .tup (.int 1 :: rngL 3 61), .tup [.int 2, .int 4, .int 5, .int 6, .int 7, .int 8, .int 9]] ++
  [.tup [.tup [.int 0], .tup [.int 1, .int 2], .tup [.int 0, .int 3], .tup [.int 0, .int 1, .int 2], .tup [.int 0, .int 1, .int 2, .int 3], .tup [.int 0, .int 1, .int 2, .int 3], .tup [.int 0, .int 1, .int 2, .int 3], .tup [.int 0, .int 1, .int 2, .int 3]]]
def D2 : List PV := [.tup (rngL 0 31), .tup ((List.range 59).map iN), .tup (rngL 0 60), .tup (rngL 0 60), .tup (rngL 59 201), .tup [.int 31, .int 32, .int 33]]
def D3 : List PV := [.tup [.int 0, .int 59], .tup [.int 0, .int 1, .int 2], .tup [.int 0, .int 1, .int 2, .int 3], .tup [.int 0, .int 59, .int 60, .int 118, .int 119, .int 120, .int 177, .int 178, .int 179, .int 180], .tup [.int 1, .int 60, .int 61, .int 119, .int 120, .int 121]]
def D4 : List PV := [.tup (((List.range 41).map fun i => .tup [iN i]) ++ [.tup []]), .rol [.tup [.int 0], .tup [.int 17], .tup [.int 40]]]
def Fin4 (tt dd : List PV) : Prop := pln 4 (.rol (tt ++ T4)) = true ∧ pln 4 (.rol (dd ++ D4)) = true ∧ likeB (.rol (tt ++ T4)) (.rol (dd ++ D4)) = true
theorem add_rol {S : Sto} {Q : PK1} {a : Addr} {xs ys : List PV} (h : S a = some (.lst xs)) (hl : xs.length + ys.length ≤ sizeLine) (q : Q (.rol (xs ++ ys)) S) : addP (.ref a) (.rol ys) S Q := by
  unfold addP
  simp only [h]
  exact ⟨hl, q⟩
theorem ph4 {S0 S2 : Sto} {Q : PK1} {E : Addr} {tt dd : List PV} {x2 x3 x4 x5 x6 : Option PV} (sub : SubS S0 S2) (hE : S2 E = some (.lst dd)) (lt : tt.length ≤ 100) (ld : dd.length ≤ 100) (hf : Fin4 tt dd) (q : Q (.bl true) S0) :
    wSs (pvAt []) (conAt [c_steps, c_flow, c_like 5]) w14 (rets Q) [some (.rol tt), some (.ref E), x2, x3, x4, x5, x6, none] S2 := by
  simp [w14, C14.a_law_written_right]
  rw [show rngL 0 40 = (List.range 40).map iN from rng_iN 40, show rngL 0 41 = (List.range 41).map iN from rng_iN 41]
  refine lf_map iN (fun i => .tup [.str "if", .str "same", .int 3, .int 3, iN (i + 1)]) _ (by simp) trivial (fun i hi k hk => ?_) ?_
  · simp
    exact hk
  rw [blt_tup_rol, addP_tup]
  refine ⟨by rw [sizeLine_val]; simp, ?_⟩
  have eP : (PV.tup ((List.range 40).map (fun i => PV.tup [.str "if", .str "same", .int 3, .int 3, iN (i + 1)]) ++ [.tup [.str "end"]])) = encP Pline := by
    unfold encP Pline
    rw [List.map_append, List.map_map]; rfl
  rw [eP]
  refine flow_at (p := Pline) (n := 41) pline (by decide) ?_
  rw [show [PV.int 0, .int 17, .int 40] = ([0, 17, 40] : List Nat).map iN from rfl]
  refine lf_map iN (fun i => tupN (nums Pline i 200)) _ (by simp) trivial (fun i hi k hk => ?_) ?_
  · refine steps_at pline ?_ (by decide) hk
    have : i = 0 ∨ i = 17 ∨ i = 40 := by simpa using hi
    rcases this with rfl | rfl | rfl <;> decide +kernel
  refine ⟨by omega, ?_⟩
  refine lf_map iN (fun i => .tup [iN i]) _ (by simp) trivial (fun i hi k hk => hk) ?_
  rw [blt_tup_rol, addP_tup]
  refine ⟨by rw [sizeLine_val]; simp, ?_⟩
  refine add_rol hE (by rw [sizeLine_val]; simp; omega) ?_
  obtain ⟨f1, f2, f3⟩ := hf
  simp only [T4, D4] at f1 f2 f3
  simp only [c_like]
  refine like_at f1 f2 ?_
  refine ⟨S0, sub, ?_⟩
  rw [f3]; exact q
theorem ph3 {S0 S2 : Sto} {Q : PK1} {E : Addr} {tt dd : List PV} {x2 x3 x4 x5 : Option PV} (sub : SubS S0 S2) (hE : S2 E = some (.lst dd)) (lt : tt.length ≤ 80) (ld : dd.length ≤ 80) (hf : Fin4 (tt ++ T3) (dd ++ D3)) (q : Q (.bl true) S0) :
    wSs (pvAt []) (conAt [c_steps, c_flow, c_like 5]) w11 (rets Q) [some (.rol tt), some (.ref E), x2, x3, x4, x5, none, none] S2 := by
  refine cut_at 3 (b := w14) rfl ?_
  obtain ⟨W, hW⟩ : ∃ W, W = w14 := ⟨_, rfl⟩
  rw [← hW]
  simp [w11, C14.a_law_written_right]
  refine flow_at (p := Pring) (n := 200) pring (by decide) ?_
  refine row_at (t := 59) (by decide) ?_
  refine flow_at (p := Pring) (n := 200) pring (by decide) ?_
  refine row_at (t := 60) (by decide) ?_
  refine flow_at (p := Pring) (n := 200) pring (by decide) ?_
  refine row_at (t := 120) (by decide) ?_
  refine steps_at (p := Pring) (i := 0) (n := 200) pring (by decide) (by decide) ?_
  refine steps_at (p := Pring) (i := 1) (n := 130) pring (by decide) (by decide) ?_
  refine ⟨by omega, fun D h2 => add_lit sub hE (by rw [sizeLine_val]; simp; omega) (fun S3 F hF sub3 hS => ?_) D h2⟩
  subst hW
  exact ph4 sub3 hS (by simp; omega) (by simp; omega) hf q
theorem ph2 {S0 S2 : Sto} {Q : PK1} {E : Addr} {tt dd : List PV} {x2 : Option PV} (sub : SubS S0 S2) (hE : S2 E = some (.lst dd)) (lt : tt.length ≤ 60) (ld : dd.length ≤ 60) (hf : Fin4 (tt ++ T2 ++ T3) (dd ++ D2 ++ D3)) (q : Q (.bl true) S0) :
    wSs (pvAt []) (conAt [c_steps, c_flow, c_like 5]) w7 (rets Q) [some (.rol tt), some (.ref E), x2, none, none, none, none, none] S2 := by
  refine cut_at 4 (b := w11) rfl ?_
  obtain ⟨W, hW⟩ : ∃ W, W = w11 := ⟨_, rfl⟩
  rw [← hW]
  simp [w7, C14.a_law_written_right]
  rw [show rngL 0 59 = (List.range 59).map iN from rng_iN 59]
  refine lf_map iN (fun i => .tup [.str "if", .str "less", .int 3, .int 2, iN i]) _ (by simp) trivial (fun i hi k hk => hk) ?_
  rw [blt_tup_rol, addP_tup]
  refine ⟨by rw [sizeLine_val]; simp, ?_⟩
  have eP : (PV.tup ((List.range 59).map (fun i => PV.tup [.str "if", .str "less", .int 3, .int 2, iN i]) ++ [.tup [.str "fault", .int 9]])) = encP Pstill := by
    unfold encP Pstill
    rw [List.map_append, List.map_map]; rfl
  rw [eP]
  refine flow_at (p := Pstill) (n := 200) pstill (by decide) ?_
  refine row_at (t := 30) (by decide) ?_
  refine row_at (t := 58) (by decide) ?_
  refine row_at (t := 59) (by decide) ?_
  refine row_at (t := 200) (by decide) ?_
  refine steps_at (p := Pstill) (i := 59) (n := 200) pstill (by decide +kernel) (by decide) ?_
  refine steps_at (p := Pstill) (i := 31) (n := 33) pstill (by decide +kernel) (by decide) ?_
  refine ⟨by omega, by unfold L2.RgOk; decide, by unfold L2.RgOk; decide, by unfold L2.RgOk; decide, by unfold L2.RgOk; decide, fun D h2 => add_lit sub hE (by rw [sizeLine_val]; simp; omega) (fun S3 F hF sub3 hS => ?_) D h2⟩
  subst hW
  exact ph3 sub3 hS (by simp; omega) (by simp; omega) hf q
theorem fin4 : Fin4 (T1 ++ T2 ++ T3) (D1 ++ D2 ++ D3) := by
  unfold Fin4 T1 T2 T3 T4
  simp only [nums_still, still_stp, nums_I, List.map_cons, List.map_nil]
  refine ⟨by decide +kernel, by decide +kernel, by decide +kernel⟩
theorem v_written14 (xs S Q) (h : c_written14 xs S Q) : wSs (pvAt []) (conAt [c_steps, c_flow, c_like 5]) C14.a_law_written_right (rets Q) (startP 8 xs) S := by
  obtain ⟨rfl, q⟩ := h
  refine cut_at 3 (b := w3) rfl ?_
  obtain ⟨W, hW⟩ : ∃ W, W = w3 := ⟨_, rfl⟩
  rw [← hW]
  simp [C14.a_law_written_right]
  refine steps_at (p := P1) (i := 0) (n := 200) p1 (by decide) (by decide) ?_
  refine flow_at (p := P1) (n := 200) p1 (by decide) ?_
  refine row_at (p := P1) (n := 200) (t := 200) (by decide) ?_
  refine steps_at (p := P2) (i := 1) (n := 200) p2 (by decide) (by decide) ?_
  refine steps_at (p := P3) (i := 1) (n := 200) p3 (by decide) (by decide) ?_
  refine ⟨by unfold L2.RgOk; decide, by unfold L2.RgOk; decide, fun E1 h1 => ?_⟩
  subst hW
  refine cut_at 4 (b := w7) rfl ?_
  obtain ⟨W, hW⟩ : ∃ W, W = w7 := ⟨_, rfl⟩
  rw [← hW]
  simp [w3, C14.a_law_written_right]
  refine steps_at (p := Ptwo) (i := 0) (n := 200) ptwo (by decide) (by decide) ?_
  refine steps_at (p := Ptwo) (i := 1) (n := 60) ptwo (by decide) (by decide) ?_
  refine steps_at (p := Ptwo) (i := 3) (n := 9) ptwo (by decide) (by decide) ?_
  refine flow_at (p := Ptwo) (n := 7) ptwo (by decide) ?_
  refine ⟨by unfold L2.RgOk; decide, by decide +kernel, by unfold L2.RgOk; decide, by decide +kernel, ?_⟩
  refine fun E2 h2 => add_lit ((SubS.refl S).fresh h1) updS_same (by rw [sizeLine_val]; decide) (fun S2 E hE sub hS => ?_) E2 h2
  refine ⟨⟨E, rfl, _, hS⟩, ?_⟩
  rw [mth_append hS]
  refine ⟨by rw [sizeLine_val]; decide, ?_⟩
  subst hW
  refine ph2 (S0 := S) (tt := T1) (dd := D1) (sub.upd0 hE) updS_same (by decide) (by decide) fin4 q
end PL.Cm

set_option maxRecDepth 100000
set_option linter.all false
set_option maxHeartbeats 4000000
namespace PL.Cm
open PySem PySem.Spec
theorem v_cup14 (xs S Q) (h : c_cup xs S Q) : wSs (pvAt []) (conAt []) C14.a_law_cup (rets Q) (startP 2 xs) S := by
  obtain ⟨x, ns, rfl, hi, h63, q⟩ := h
  have hb : ∀ Q, bltFP .list [x] S Q = Q (.rol (ns.map PV.int)) S := fun Q => by simp only [bltFP, hi]
  simp [C14.a_law_cup, hb]
  refine ⟨by omega, ?_⟩
  obtain ⟨v, hv⟩ : ∃ v : Int, ∀ h, (ns.map PV.int ++ [.int 0])[0]'h = .int v := by
    cases ns with
    | nil => exact ⟨0, fun _ => by simp⟩
    | cons n ns => exact ⟨n, fun _ => by simp⟩
  simp [hv]
  split
  · exact ⟨by decide, cup_fin (by omega) (by omega) (by omega) q⟩
  · exact cup_fin (by omega) (by omega) (by omega) q
theorem Prog.mono14 {p : List Ord} {m n : Nat} (h : Prog p m) (hn : m ≤ n) : Prog p n := ⟨h.one, Nat.le_trans h.le hn, h.ok, h.last⟩
theorem v_law14 (xs S Q) (h : conLaw xs S Q) : wSs (pvAt []) (conAt [c_written14, c_cup, c_right14, c_program]) C14.a_law (rets Q) (startP 3 xs) S := by
  obtain ⟨x, ns, rfl, hi, hl, h63, q⟩ := h
  simp [C14.a_law]
  refine ⟨rfl, ?_⟩
  simp
  refine ⟨x, ns, rfl, hi, h63, fun p S1 hp sub hc => ?_⟩
  have el : [PV.int 4, .int 10, .int 20, .int 40, .int 59] = ([4, 10, 20, 40, 59] : List Nat).map iN := rfl
  rw [el]
  refine fo_map _ (fun (pre : List Nat) ρ S2 => CupIs S2 p ∧ ∃ x2, ρ = [some x, some (.ref p), x2]) _ _ _ ⟨hc, _, rfl⟩ (fun _ _ _ _ => trivial) ?_ ?_
  · rintro pre m post ρ S2 k hpre ⟨hc2, x2, rfl⟩ next
    have hm : m ∈ ([4, 10, 20, 40, 59] : List Nat) := by rw [hpre]; simp
    have hm2 : 1 ≤ m ∧ m ≤ 59 := by simp at hm; omega
    simp
    refine ⟨p, m, rfl, hm2.1, by omega, hc2, fun pr S3 hpr u3 => ?_⟩
    refine ⟨p, pr, rfl, hpr.mono14 (by omega), u3.is, fun S4 u4 => ?_⟩
    simp
    exact ⟨S4, SubS.refl _, next _ _ ⟨u4.is, _, rfl⟩⟩
  · rintro ρ S2 ⟨hc2, x2, rfl⟩
    exact ⟨S2, SubS.refl _, q S2⟩
end PL.Cm

set_option linter.all false
set_option maxRecDepth 100000
set_option maxHeartbeats 4000000
namespace PL.Cm
open PySem PySem.Spec L2 PL
theorem no_law_like {xs : List PV} {S : Sto} {Q : PK1} (h : c_like 0 xs S Q) : False := h
theorem len_law_like (n : Nat) : ∀ xs S Q, c_like n xs S Q → xs.length = 2 := by
  intro xs S Q h
  cases n with
  | zero => exact h.elim
  | succ n => obtain ⟨v, h, _⟩ := h; unfold f_like at h; split at h <;> first | rfl | cases h

def top (i : Nat) : Stmt := PySem.Challenge.pw_allrunstold_k14_whole_flows_to_two_hundr.main.body.getD i (.Pass ⟨0, 0, 0, 0⟩)
abbrev s_is_integer : Stmt := top 7
abbrev s_is_whole : Stmt := top 8
abbrev s_need_whole : Stmt := top 9
abbrev s_is_tuple_of : Stmt := top 10
abbrev s_is_one_of : Stmt := top 11
abbrev s_is_register : Stmt := top 27
abbrev s_are_registers : Stmt := top 28
abbrev s_fits_order : Stmt := top 29
abbrev s_fits_program : Stmt := top 30
abbrev s_need_program : Stmt := top 31
abbrev s_stops : Stmt := top 32
abbrev s_next_places : Stmt := top 34
abbrev s_all_next : Stmt := top 35
abbrev s_way_in : Stmt := top 36
abbrev s_need_place : Stmt := top 37
abbrev s_leads_on : Stmt := top 38
abbrev s_shortest_way : Stmt := top 39
abbrev s_rows_in : Stmt := top 42
abbrev s_flow_rows : Stmt := top 43
abbrev s_steps_to : Stmt := top 44
abbrev s_law_cup : Stmt := top 46
abbrev s_law_roll : Stmt := top 47
abbrev s_law_some : Stmt := top 48
abbrev s_law_sort : Stmt := top 49
abbrev s_law_like : Stmt := top 50
abbrev s_law_number : Stmt := top 51
abbrev s_law_pieces : Stmt := top 52
abbrev s_law_order : Stmt := top 53
abbrev s_law_program : Stmt := top 54
abbrev s_law_after : Stmt := top 55
abbrev s_law_rows : Stmt := top 56
abbrev s_law_from : Stmt := top 57
abbrev s_law_right : Stmt := top 58
abbrev s_law_written_right : Stmt := top 59
abbrev s_law : Stmt := top 60
section
variable {P : Program} {w : World} {K : PySem.W.Frag} {mg : Str → Option Value} {base : Heap}
theorem len_is_integer : ∀ xs S Q, (pc f_is_integer) xs S Q → xs.length = 1 := by intro xs S Q h; obtain ⟨v, h, _⟩ := h; unfold f_is_integer at h; split at h <;> first | rfl | cases h
theorem len_is_tuple_of : ∀ xs S Q, (pc f_is_tuple_of) xs S Q → xs.length = 3 := by intro xs S Q h; obtain ⟨v, h, _⟩ := h; unfold f_is_tuple_of at h; split at h <;> first | rfl | cases h
theorem len_is_one_of : ∀ xs S Q, c_is_one_of xs S Q → xs.length = 2 := by intro xs S Q h; unfold c_is_one_of at h; first | (obtain ⟨rfl, _⟩ := h; rfl) | (obtain ⟨_, rfl, _⟩ := h; rfl) | (obtain ⟨_, _, rfl, _⟩ := h; rfl) | (obtain ⟨_, _, _, rfl, _⟩ := h; rfl) | (obtain ⟨_, _, _, _, rfl, _⟩ := h; rfl) | (obtain ⟨_, _, _, _, _, rfl, _⟩ := h; rfl) | (obtain ⟨_, _, _, _, _, _, rfl, _⟩ := h; rfl) | (obtain ⟨_, _, _, _, _, _, _, rfl, _⟩ := h; rfl) | (obtain ⟨_, _, _, _, _, _, _, _, rfl, _⟩ := h; rfl)
theorem len_stops : ∀ xs S Q, c_stops xs S Q → xs.length = 1 := by intro xs S Q h; unfold c_stops at h; first | (obtain ⟨rfl, _⟩ := h; rfl) | (obtain ⟨_, rfl, _⟩ := h; rfl) | (obtain ⟨_, _, rfl, _⟩ := h; rfl) | (obtain ⟨_, _, _, rfl, _⟩ := h; rfl) | (obtain ⟨_, _, _, _, rfl, _⟩ := h; rfl) | (obtain ⟨_, _, _, _, _, rfl, _⟩ := h; rfl) | (obtain ⟨_, _, _, _, _, _, rfl, _⟩ := h; rfl) | (obtain ⟨_, _, _, _, _, _, _, rfl, _⟩ := h; rfl) | (obtain ⟨_, _, _, _, _, _, _, _, rfl, _⟩ := h; rfl)
theorem len_way_in : ∀ xs S Q, c_way xs S Q → xs.length = 3 := by intro xs S Q h; unfold c_way at h; first | (obtain ⟨rfl, _⟩ := h; rfl) | (obtain ⟨_, rfl, _⟩ := h; rfl) | (obtain ⟨_, _, rfl, _⟩ := h; rfl) | (obtain ⟨_, _, _, rfl, _⟩ := h; rfl) | (obtain ⟨_, _, _, _, rfl, _⟩ := h; rfl) | (obtain ⟨_, _, _, _, _, rfl, _⟩ := h; rfl) | (obtain ⟨_, _, _, _, _, _, rfl, _⟩ := h; rfl) | (obtain ⟨_, _, _, _, _, _, _, rfl, _⟩ := h; rfl) | (obtain ⟨_, _, _, _, _, _, _, _, rfl, _⟩ := h; rfl)
theorem len_law_cup : ∀ xs S Q, c_cup xs S Q → xs.length = 1 := by intro xs S Q h; unfold c_cup at h; first | (obtain ⟨rfl, _⟩ := h; rfl) | (obtain ⟨_, rfl, _⟩ := h; rfl) | (obtain ⟨_, _, rfl, _⟩ := h; rfl) | (obtain ⟨_, _, _, rfl, _⟩ := h; rfl) | (obtain ⟨_, _, _, _, rfl, _⟩ := h; rfl) | (obtain ⟨_, _, _, _, _, rfl, _⟩ := h; rfl) | (obtain ⟨_, _, _, _, _, _, rfl, _⟩ := h; rfl) | (obtain ⟨_, _, _, _, _, _, _, rfl, _⟩ := h; rfl) | (obtain ⟨_, _, _, _, _, _, _, _, rfl, _⟩ := h; rfl)
theorem len_law_roll : ∀ xs S Q, c_roll xs S Q → xs.length = 2 := by intro xs S Q h; unfold c_roll at h; first | (obtain ⟨rfl, _⟩ := h; rfl) | (obtain ⟨_, rfl, _⟩ := h; rfl) | (obtain ⟨_, _, rfl, _⟩ := h; rfl) | (obtain ⟨_, _, _, rfl, _⟩ := h; rfl) | (obtain ⟨_, _, _, _, rfl, _⟩ := h; rfl) | (obtain ⟨_, _, _, _, _, rfl, _⟩ := h; rfl) | (obtain ⟨_, _, _, _, _, _, rfl, _⟩ := h; rfl) | (obtain ⟨_, _, _, _, _, _, _, rfl, _⟩ := h; rfl) | (obtain ⟨_, _, _, _, _, _, _, _, rfl, _⟩ := h; rfl)
theorem len_law_sort : ∀ xs S Q, (pc f_sort) xs S Q → xs.length = 1 := by intro xs S Q h; obtain ⟨v, h, _⟩ := h; unfold f_sort at h; split at h <;> first | rfl | cases h
theorem len_law_after : ∀ xs S Q, c_next xs S Q → xs.length = 2 := by intro xs S Q h; unfold c_next at h; first | (obtain ⟨rfl, _⟩ := h; rfl) | (obtain ⟨_, rfl, _⟩ := h; rfl) | (obtain ⟨_, _, rfl, _⟩ := h; rfl) | (obtain ⟨_, _, _, rfl, _⟩ := h; rfl) | (obtain ⟨_, _, _, _, rfl, _⟩ := h; rfl) | (obtain ⟨_, _, _, _, _, rfl, _⟩ := h; rfl) | (obtain ⟨_, _, _, _, _, _, rfl, _⟩ := h; rfl) | (obtain ⟨_, _, _, _, _, _, _, rfl, _⟩ := h; rfl) | (obtain ⟨_, _, _, _, _, _, _, _, rfl, _⟩ := h; rfl)
theorem len_is_whole : ∀ xs S Q, (pc f_is_whole) xs S Q → xs.length = 3 := by intro xs S Q h; obtain ⟨v, h, _⟩ := h; unfold f_is_whole at h; split at h <;> first | rfl | cases h
theorem len_next_places : ∀ xs S Q, c_next xs S Q → xs.length = 2 := by intro xs S Q h; unfold c_next at h; first | (obtain ⟨rfl, _⟩ := h; rfl) | (obtain ⟨_, rfl, _⟩ := h; rfl) | (obtain ⟨_, _, rfl, _⟩ := h; rfl) | (obtain ⟨_, _, _, rfl, _⟩ := h; rfl) | (obtain ⟨_, _, _, _, rfl, _⟩ := h; rfl) | (obtain ⟨_, _, _, _, _, rfl, _⟩ := h; rfl) | (obtain ⟨_, _, _, _, _, _, rfl, _⟩ := h; rfl) | (obtain ⟨_, _, _, _, _, _, _, rfl, _⟩ := h; rfl) | (obtain ⟨_, _, _, _, _, _, _, _, rfl, _⟩ := h; rfl)
theorem len_law_some : ∀ xs S Q, c_some xs S Q → xs.length = 2 := by intro xs S Q h; unfold c_some at h; first | (obtain ⟨rfl, _⟩ := h; rfl) | (obtain ⟨_, rfl, _⟩ := h; rfl) | (obtain ⟨_, _, rfl, _⟩ := h; rfl) | (obtain ⟨_, _, _, rfl, _⟩ := h; rfl) | (obtain ⟨_, _, _, _, rfl, _⟩ := h; rfl) | (obtain ⟨_, _, _, _, _, rfl, _⟩ := h; rfl) | (obtain ⟨_, _, _, _, _, _, rfl, _⟩ := h; rfl) | (obtain ⟨_, _, _, _, _, _, _, rfl, _⟩ := h; rfl) | (obtain ⟨_, _, _, _, _, _, _, _, rfl, _⟩ := h; rfl)
theorem len_law_rows : ∀ xs S Q, c_lawrows xs S Q → xs.length = 2 := by intro xs S Q h; unfold c_lawrows at h; first | (obtain ⟨rfl, _⟩ := h; rfl) | (obtain ⟨_, rfl, _⟩ := h; rfl) | (obtain ⟨_, _, rfl, _⟩ := h; rfl) | (obtain ⟨_, _, _, rfl, _⟩ := h; rfl) | (obtain ⟨_, _, _, _, rfl, _⟩ := h; rfl) | (obtain ⟨_, _, _, _, _, rfl, _⟩ := h; rfl) | (obtain ⟨_, _, _, _, _, _, rfl, _⟩ := h; rfl) | (obtain ⟨_, _, _, _, _, _, _, rfl, _⟩ := h; rfl) | (obtain ⟨_, _, _, _, _, _, _, _, rfl, _⟩ := h; rfl)
theorem len_law_from : ∀ xs S Q, c_from xs S Q → xs.length = 2 := by intro xs S Q h; unfold c_from at h; first | (obtain ⟨rfl, _⟩ := h; rfl) | (obtain ⟨_, rfl, _⟩ := h; rfl) | (obtain ⟨_, _, rfl, _⟩ := h; rfl) | (obtain ⟨_, _, _, rfl, _⟩ := h; rfl) | (obtain ⟨_, _, _, _, rfl, _⟩ := h; rfl) | (obtain ⟨_, _, _, _, _, rfl, _⟩ := h; rfl) | (obtain ⟨_, _, _, _, _, _, rfl, _⟩ := h; rfl) | (obtain ⟨_, _, _, _, _, _, _, rfl, _⟩ := h; rfl) | (obtain ⟨_, _, _, _, _, _, _, _, rfl, _⟩ := h; rfl)
theorem len_need_whole : ∀ xs S Q, (pc f_need_whole) xs S Q → xs.length = 3 := by intro xs S Q h; obtain ⟨v, h, _⟩ := h; unfold f_need_whole at h; split at h <;> first | rfl | cases h
theorem len_is_register : ∀ xs S Q, (pc f_is_register) xs S Q → xs.length = 1 := by intro xs S Q h; obtain ⟨v, h, _⟩ := h; unfold f_is_register at h; split at h <;> first | rfl | cases h
theorem len_all_next : ∀ xs S Q, c_all_next xs S Q → xs.length = 1 := by intro xs S Q h; unfold c_all_next at h; first | (obtain ⟨rfl, _⟩ := h; rfl) | (obtain ⟨_, rfl, _⟩ := h; rfl) | (obtain ⟨_, _, rfl, _⟩ := h; rfl) | (obtain ⟨_, _, _, rfl, _⟩ := h; rfl) | (obtain ⟨_, _, _, _, rfl, _⟩ := h; rfl) | (obtain ⟨_, _, _, _, _, rfl, _⟩ := h; rfl) | (obtain ⟨_, _, _, _, _, _, rfl, _⟩ := h; rfl) | (obtain ⟨_, _, _, _, _, _, _, rfl, _⟩ := h; rfl) | (obtain ⟨_, _, _, _, _, _, _, _, rfl, _⟩ := h; rfl)
theorem len_law_number : ∀ xs S Q, c_number xs S Q → xs.length = 1 := by intro xs S Q h; unfold c_number at h; first | (obtain ⟨rfl, _⟩ := h; rfl) | (obtain ⟨_, rfl, _⟩ := h; rfl) | (obtain ⟨_, _, rfl, _⟩ := h; rfl) | (obtain ⟨_, _, _, rfl, _⟩ := h; rfl) | (obtain ⟨_, _, _, _, rfl, _⟩ := h; rfl) | (obtain ⟨_, _, _, _, _, rfl, _⟩ := h; rfl) | (obtain ⟨_, _, _, _, _, _, rfl, _⟩ := h; rfl) | (obtain ⟨_, _, _, _, _, _, _, rfl, _⟩ := h; rfl) | (obtain ⟨_, _, _, _, _, _, _, _, rfl, _⟩ := h; rfl)
theorem len_are_registers : ∀ xs S Q, (pc f_are_registers) xs S Q → xs.length = 1 := by intro xs S Q h; obtain ⟨v, h, _⟩ := h; unfold f_are_registers at h; split at h <;> first | rfl | cases h
theorem len_need_place : ∀ xs S Q, c_need_place xs S Q → xs.length = 2 := by intro xs S Q h; unfold c_need_place at h; first | (obtain ⟨rfl, _⟩ := h; rfl) | (obtain ⟨_, rfl, _⟩ := h; rfl) | (obtain ⟨_, _, rfl, _⟩ := h; rfl) | (obtain ⟨_, _, _, rfl, _⟩ := h; rfl) | (obtain ⟨_, _, _, _, rfl, _⟩ := h; rfl) | (obtain ⟨_, _, _, _, _, rfl, _⟩ := h; rfl) | (obtain ⟨_, _, _, _, _, _, rfl, _⟩ := h; rfl) | (obtain ⟨_, _, _, _, _, _, _, rfl, _⟩ := h; rfl) | (obtain ⟨_, _, _, _, _, _, _, _, rfl, _⟩ := h; rfl)
theorem len_rows_in : ∀ xs S Q, c_rows xs S Q → xs.length = 2 := by intro xs S Q h; unfold c_rows at h; first | (obtain ⟨rfl, _⟩ := h; rfl) | (obtain ⟨_, rfl, _⟩ := h; rfl) | (obtain ⟨_, _, rfl, _⟩ := h; rfl) | (obtain ⟨_, _, _, rfl, _⟩ := h; rfl) | (obtain ⟨_, _, _, _, rfl, _⟩ := h; rfl) | (obtain ⟨_, _, _, _, _, rfl, _⟩ := h; rfl) | (obtain ⟨_, _, _, _, _, _, rfl, _⟩ := h; rfl) | (obtain ⟨_, _, _, _, _, _, _, rfl, _⟩ := h; rfl) | (obtain ⟨_, _, _, _, _, _, _, _, rfl, _⟩ := h; rfl)
theorem len_law_pieces : ∀ xs S Q, c_pieces xs S Q → xs.length = 2 := by intro xs S Q h; unfold c_pieces at h; first | (obtain ⟨rfl, _⟩ := h; rfl) | (obtain ⟨_, rfl, _⟩ := h; rfl) | (obtain ⟨_, _, rfl, _⟩ := h; rfl) | (obtain ⟨_, _, _, rfl, _⟩ := h; rfl) | (obtain ⟨_, _, _, _, rfl, _⟩ := h; rfl) | (obtain ⟨_, _, _, _, _, rfl, _⟩ := h; rfl) | (obtain ⟨_, _, _, _, _, _, rfl, _⟩ := h; rfl) | (obtain ⟨_, _, _, _, _, _, _, rfl, _⟩ := h; rfl) | (obtain ⟨_, _, _, _, _, _, _, _, rfl, _⟩ := h; rfl)
theorem len_law_order : ∀ xs S Q, c_order xs S Q → xs.length = 3 := by intro xs S Q h; unfold c_order at h; first | (obtain ⟨rfl, _⟩ := h; rfl) | (obtain ⟨_, rfl, _⟩ := h; rfl) | (obtain ⟨_, _, rfl, _⟩ := h; rfl) | (obtain ⟨_, _, _, rfl, _⟩ := h; rfl) | (obtain ⟨_, _, _, _, rfl, _⟩ := h; rfl) | (obtain ⟨_, _, _, _, _, rfl, _⟩ := h; rfl) | (obtain ⟨_, _, _, _, _, _, rfl, _⟩ := h; rfl) | (obtain ⟨_, _, _, _, _, _, _, rfl, _⟩ := h; rfl) | (obtain ⟨_, _, _, _, _, _, _, _, rfl, _⟩ := h; rfl)
theorem len_fits_order : ∀ xs S Q, (pc f_fits_order) xs S Q → xs.length = 2 := by intro xs S Q h; obtain ⟨v, h, _⟩ := h; unfold f_fits_order at h; split at h <;> first | rfl | cases h
theorem len_law_program : ∀ xs S Q, c_program xs S Q → xs.length = 2 := by intro xs S Q h; unfold c_program at h; first | (obtain ⟨rfl, _⟩ := h; rfl) | (obtain ⟨_, rfl, _⟩ := h; rfl) | (obtain ⟨_, _, rfl, _⟩ := h; rfl) | (obtain ⟨_, _, _, rfl, _⟩ := h; rfl) | (obtain ⟨_, _, _, _, rfl, _⟩ := h; rfl) | (obtain ⟨_, _, _, _, _, rfl, _⟩ := h; rfl) | (obtain ⟨_, _, _, _, _, _, rfl, _⟩ := h; rfl) | (obtain ⟨_, _, _, _, _, _, _, rfl, _⟩ := h; rfl) | (obtain ⟨_, _, _, _, _, _, _, _, rfl, _⟩ := h; rfl)
theorem len_fits_program : ∀ xs S Q, (pc f_fits_program) xs S Q → xs.length = 1 := by intro xs S Q h; obtain ⟨v, h, _⟩ := h; unfold f_fits_program at h; split at h <;> first | rfl | cases h
theorem len_need_program : ∀ xs S Q, (pc f_need_program) xs S Q → xs.length = 1 := by intro xs S Q h; obtain ⟨v, h, _⟩ := h; unfold f_need_program at h; split at h <;> first | rfl | cases h
theorem len_leads_on : ∀ xs S Q, c_leads xs S Q → xs.length = 2 := by intro xs S Q h; unfold c_leads at h; first | (obtain ⟨rfl, _⟩ := h; rfl) | (obtain ⟨_, rfl, _⟩ := h; rfl) | (obtain ⟨_, _, rfl, _⟩ := h; rfl) | (obtain ⟨_, _, _, rfl, _⟩ := h; rfl) | (obtain ⟨_, _, _, _, rfl, _⟩ := h; rfl) | (obtain ⟨_, _, _, _, _, rfl, _⟩ := h; rfl) | (obtain ⟨_, _, _, _, _, _, rfl, _⟩ := h; rfl) | (obtain ⟨_, _, _, _, _, _, _, rfl, _⟩ := h; rfl) | (obtain ⟨_, _, _, _, _, _, _, _, rfl, _⟩ := h; rfl)
theorem len_shortest_way : ∀ xs S Q, c_short xs S Q → xs.length = 3 := by intro xs S Q h; unfold c_short at h; first | (obtain ⟨rfl, _⟩ := h; rfl) | (obtain ⟨_, rfl, _⟩ := h; rfl) | (obtain ⟨_, _, rfl, _⟩ := h; rfl) | (obtain ⟨_, _, _, rfl, _⟩ := h; rfl) | (obtain ⟨_, _, _, _, rfl, _⟩ := h; rfl) | (obtain ⟨_, _, _, _, _, rfl, _⟩ := h; rfl) | (obtain ⟨_, _, _, _, _, _, rfl, _⟩ := h; rfl) | (obtain ⟨_, _, _, _, _, _, _, rfl, _⟩ := h; rfl) | (obtain ⟨_, _, _, _, _, _, _, _, rfl, _⟩ := h; rfl)
theorem len_flow_rows : ∀ xs S Q, c_flow xs S Q → xs.length = 2 := by intro xs S Q h; unfold c_flow at h; first | (obtain ⟨rfl, _⟩ := h; rfl) | (obtain ⟨_, rfl, _⟩ := h; rfl) | (obtain ⟨_, _, rfl, _⟩ := h; rfl) | (obtain ⟨_, _, _, rfl, _⟩ := h; rfl) | (obtain ⟨_, _, _, _, rfl, _⟩ := h; rfl) | (obtain ⟨_, _, _, _, _, rfl, _⟩ := h; rfl) | (obtain ⟨_, _, _, _, _, _, rfl, _⟩ := h; rfl) | (obtain ⟨_, _, _, _, _, _, _, rfl, _⟩ := h; rfl) | (obtain ⟨_, _, _, _, _, _, _, _, rfl, _⟩ := h; rfl)
theorem len_steps_to : ∀ xs S Q, c_steps xs S Q → xs.length = 3 := by intro xs S Q h; unfold c_steps at h; first | (obtain ⟨rfl, _⟩ := h; rfl) | (obtain ⟨_, rfl, _⟩ := h; rfl) | (obtain ⟨_, _, rfl, _⟩ := h; rfl) | (obtain ⟨_, _, _, rfl, _⟩ := h; rfl) | (obtain ⟨_, _, _, _, rfl, _⟩ := h; rfl) | (obtain ⟨_, _, _, _, _, rfl, _⟩ := h; rfl) | (obtain ⟨_, _, _, _, _, _, rfl, _⟩ := h; rfl) | (obtain ⟨_, _, _, _, _, _, _, rfl, _⟩ := h; rfl) | (obtain ⟨_, _, _, _, _, _, _, _, rfl, _⟩ := h; rfl)
theorem len_law_right : ∀ xs S Q, c_right14 xs S Q → xs.length = 2 := by intro xs S Q h; unfold c_right14 at h; first | (obtain ⟨rfl, _⟩ := h; rfl) | (obtain ⟨_, rfl, _⟩ := h; rfl) | (obtain ⟨_, _, rfl, _⟩ := h; rfl) | (obtain ⟨_, _, _, rfl, _⟩ := h; rfl) | (obtain ⟨_, _, _, _, rfl, _⟩ := h; rfl) | (obtain ⟨_, _, _, _, _, rfl, _⟩ := h; rfl) | (obtain ⟨_, _, _, _, _, _, rfl, _⟩ := h; rfl) | (obtain ⟨_, _, _, _, _, _, _, rfl, _⟩ := h; rfl) | (obtain ⟨_, _, _, _, _, _, _, _, rfl, _⟩ := h; rfl)
theorem len_law_written_right : ∀ xs S Q, c_written14 xs S Q → xs.length = 0 := by intro xs S Q h; unfold c_written14 at h; first | (obtain ⟨rfl, _⟩ := h; rfl) | (obtain ⟨_, rfl, _⟩ := h; rfl) | (obtain ⟨_, _, rfl, _⟩ := h; rfl) | (obtain ⟨_, _, _, rfl, _⟩ := h; rfl) | (obtain ⟨_, _, _, _, rfl, _⟩ := h; rfl) | (obtain ⟨_, _, _, _, _, rfl, _⟩ := h; rfl) | (obtain ⟨_, _, _, _, _, _, rfl, _⟩ := h; rfl) | (obtain ⟨_, _, _, _, _, _, _, rfl, _⟩ := h; rfl) | (obtain ⟨_, _, _, _, _, _, _, _, rfl, _⟩ := h; rfl)
theorem len_law : ∀ xs S Q, conLaw xs S Q → xs.length = 1 := conLaw_len
theorem ok_is_integer {f : Addr} {fd : FuncData} {k : Nat} (F : L2.Fun K "is_integer" "is_integer" s_is_integer f fd) (hf : FnsOk P w K mg base k [] []) (hc : CnsOk K mg [] []) (hb : ∀ y, y ∈ bltNames → mg y = none) : FnOk P w K mg base CX0 (k + 1) f fd ["value"] (liSp K 1 (pc f_is_integer)) :=
  fn_ok (N := C00.N_is_integer) (body := C00.a_is_integer) F ⟨rfl, rfl, rfl, by decide +kernel, rfl, by decide +kernel, by decide +kernel⟩ (by decide +kernel) hf hc hb len_is_integer v_is_integer
theorem ok_is_tuple_of {f : Addr} {fd : FuncData} {k : Nat} (F : L2.Fun K "is_tuple_of" "is_tuple_of" s_is_tuple_of f fd) (hf : FnsOk P w K mg base k [] []) (hc : CnsOk K mg [] []) (hb : ∀ y, y ∈ bltNames → mg y = none) : FnOk P w K mg base CX0 (k + 1) f fd ["value", "low", "high"] (liSp K 3 (pc f_is_tuple_of)) :=
  fn_ok (N := C00.N_is_tuple_of) (body := C00.a_is_tuple_of) F ⟨rfl, rfl, rfl, by decide +kernel, rfl, by decide +kernel, by decide +kernel⟩ (by decide +kernel) hf hc hb len_is_tuple_of v_is_tuple_of
theorem ok_is_one_of {f : Addr} {fd : FuncData} {k : Nat} (F : L2.Fun K "is_one_of" "is_one_of" s_is_one_of f fd) (hf : FnsOk P w K mg base k [] []) (hc : CnsOk K mg [] []) (hb : ∀ y, y ∈ bltNames → mg y = none) : FnOk P w K mg base CX0 (k + 1) f fd ["value", "names"] (liSp K 2 c_is_one_of) :=
  fn_ok (N := C00.N_is_one_of) (body := C00.a_is_one_of) F ⟨rfl, rfl, rfl, by decide +kernel, rfl, by decide +kernel, by decide +kernel⟩ (by decide +kernel) hf hc hb len_is_one_of v_is_one_of
theorem ok_stops {f : Addr} {fd : FuncData} {k : Nat} (F : L2.Fun K "stops" "stops" s_stops f fd) (hf : FnsOk P w K mg base k [] []) (hc : CnsOk K mg ["FAULT", "END"] [PV.str "fault", PV.str "end"]) (hb : ∀ y, y ∈ bltNames → mg y = none) : FnOk P w K mg base CX0 (k + 1) f fd ["order"] (liSp K 1 c_stops) :=
  fn_ok (N := C14.N_stops) (body := C14.a_stops) F ⟨rfl, rfl, rfl, by decide +kernel, rfl, by decide +kernel, by decide +kernel⟩ (by decide +kernel) hf hc hb len_stops v_stops
theorem ok_way_in {f : Addr} {fd : FuncData} {k : Nat} (F : L2.Fun K "way_in" "way_in" s_way_in f fd) (hf : FnsOk P w K mg base k [] []) (hc : CnsOk K mg [] []) (hb : ∀ y, y ∈ bltNames → mg y = none) : FnOk P w K mg base CX0 (k + 1) f fd ["nexts", "place", "other"] (liSp K 3 c_way) :=
  fn_ok (N := C14.N_way_in) (body := C14.a_way_in) F ⟨rfl, rfl, rfl, by decide +kernel, rfl, by decide +kernel, by decide +kernel⟩ (by decide +kernel) hf hc hb len_way_in v_way
theorem ok_law_cup {f : Addr} {fd : FuncData} {k : Nat} (F : L2.Fun K "_law_cup" "_law_cup" s_law_cup f fd) (hf : FnsOk P w K mg base k [] []) (hc : CnsOk K mg [] []) (hb : ∀ y, y ∈ bltNames → mg y = none) : FnOk P w K mg base CX0 (k + 1) f fd ["script"] (liSp K 1 c_cup) :=
  fn_ok (N := C14.N_law_cup) (body := C14.a_law_cup) F ⟨rfl, rfl, rfl, by decide +kernel, rfl, by decide +kernel, by decide +kernel⟩ (by decide +kernel) hf hc hb len_law_cup v_cup14
theorem ok_law_roll {f : Addr} {fd : FuncData} {k : Nat} (F : L2.Fun K "_law_roll" "_law_roll" s_law_roll f fd) (hf : FnsOk P w K mg base k [] []) (hc : CnsOk K mg [] []) (hb : ∀ y, y ∈ bltNames → mg y = none) : FnOk P w K mg base CX0 (k + 1) f fd ["cup", "many"] (liSp K 2 c_roll) :=
  fn_ok (N := C00.N_law_roll) (body := C00.a_law_roll) F ⟨rfl, rfl, rfl, by decide +kernel, rfl, by decide +kernel, by decide +kernel⟩ (by decide +kernel) hf hc hb len_law_roll v_roll
theorem ok_law_sort {f : Addr} {fd : FuncData} {k : Nat} (F : L2.Fun K "_law_sort" "_law_sort" s_law_sort f fd) (hf : FnsOk P w K mg base k [] []) (hc : CnsOk K mg [] []) (hb : ∀ y, y ∈ bltNames → mg y = none) : FnOk P w K mg base CX0 (k + 1) f fd ["value"] (liSp K 1 (pc f_sort)) :=
  fn_ok (N := C00.N_law_sort) (body := C00.a_law_sort) F ⟨rfl, rfl, rfl, by decide +kernel, rfl, by decide +kernel, by decide +kernel⟩ (by decide +kernel) hf hc hb len_law_sort v_sort
theorem ok_law_after {f : Addr} {fd : FuncData} {k : Nat} (F : L2.Fun K "_law_after" "_law_after" s_law_after f fd) (hf : FnsOk P w K mg base k [] []) (hc : CnsOk K mg [] []) (hb : ∀ y, y ∈ bltNames → mg y = none) : FnOk P w K mg base CX0 (k + 1) f fd ["program", "place"] (liSp K 2 c_next) :=
  fn_ok (N := C14.N_law_after) (body := C14.a_law_after) F ⟨rfl, rfl, rfl, by decide +kernel, rfl, by decide +kernel, by decide +kernel⟩ (by decide +kernel) hf hc hb len_law_after v_after
theorem ok_is_whole {f : Addr} {fd : FuncData} {k : Nat} (F : L2.Fun K "is_whole" "is_whole" s_is_whole f fd) (hf : FnsOk P w K mg base k ["is_integer"] [(pc f_is_integer)]) (hc : CnsOk K mg [] []) (hb : ∀ y, y ∈ bltNames → mg y = none) : FnOk P w K mg base CX0 (k + 1) f fd ["value", "low", "high"] (liSp K 3 (pc f_is_whole)) :=
  fn_ok (N := C00.N_is_whole) (body := C00.a_is_whole) F ⟨rfl, rfl, rfl, by decide +kernel, rfl, by decide +kernel, by decide +kernel⟩ (by decide +kernel) hf hc hb len_is_whole v_is_whole
theorem ok_next_places {f : Addr} {fd : FuncData} {k : Nat} (F : L2.Fun K "next_places" "next_places" s_next_places f fd) (hf : FnsOk P w K mg base k ["stops"] [c_stops]) (hc : CnsOk K mg ["GO", "IF"] [PV.str "go", PV.str "if"]) (hb : ∀ y, y ∈ bltNames → mg y = none) : FnOk P w K mg base CX0 (k + 1) f fd ["program", "place"] (liSp K 2 c_next) :=
  fn_ok (N := C14.N_next_places) (body := C14.a_next_places) F ⟨rfl, rfl, rfl, by decide +kernel, rfl, by decide +kernel, by decide +kernel⟩ (by decide +kernel) hf hc hb len_next_places v_next
theorem ok_law_some {f : Addr} {fd : FuncData} {k : Nat} (F : L2.Fun K "_law_some" "_law_some" s_law_some f fd) (hf : FnsOk P w K mg base k ["_law_roll"] [c_roll]) (hc : CnsOk K mg [] []) (hb : ∀ y, y ∈ bltNames → mg y = none) : FnOk P w K mg base CX0 (k + 1) f fd ["cup", "things"] (liSp K 2 c_some) :=
  fn_ok (N := C00.N_law_some) (body := C00.a_law_some) F ⟨rfl, rfl, rfl, by decide +kernel, rfl, by decide +kernel, by decide +kernel⟩ (by decide +kernel) hf hc hb len_law_some v_some
theorem ok_law_rows {f : Addr} {fd : FuncData} {k : Nat} (F : L2.Fun K "_law_rows" "_law_rows" s_law_rows f fd) (hf : FnsOk P w K mg base k ["_law_after"] [c_next]) (hc : CnsOk K mg [] []) (hb : ∀ y, y ∈ bltNames → mg y = none) : FnOk P w K mg base CX0 (k + 1) f fd ["program", "most"] (liSp K 2 c_lawrows) :=
  fn_ok (N := C14.N_law_rows) (body := C14.a_law_rows) F ⟨rfl, rfl, rfl, by decide +kernel, rfl, by decide +kernel, by decide +kernel⟩ (by decide +kernel) hf hc hb len_law_rows v_lawrows
theorem ok_law_from {f : Addr} {fd : FuncData} {k : Nat} (F : L2.Fun K "_law_from" "_law_from" s_law_from f fd) (hf : FnsOk P w K mg base k ["_law_after"] [c_next]) (hc : CnsOk K mg [] []) (hb : ∀ y, y ∈ bltNames → mg y = none) : FnOk P w K mg base CX0 (k + 1) f fd ["program", "many"] (liSp K 2 c_from) :=
  fn_ok (N := C14.N_law_from) (body := C14.a_law_from) F ⟨rfl, rfl, rfl, by decide +kernel, rfl, by decide +kernel, by decide +kernel⟩ (by decide +kernel) hf hc hb len_law_from v_from
theorem ok_need_whole {f : Addr} {fd : FuncData} {k : Nat} (F : L2.Fun K "need_whole" "need_whole" s_need_whole f fd) (hf : FnsOk P w K mg base k ["is_whole"] [(pc f_is_whole)]) (hc : CnsOk K mg [] []) (hb : ∀ y, y ∈ bltNames → mg y = none) : FnOk P w K mg base CX0 (k + 1) f fd ["value", "low", "high"] (liSp K 3 (pc f_need_whole)) :=
  fn_ok (N := C14.N_need_whole) (body := C14.a_need_whole) F ⟨rfl, rfl, rfl, by decide +kernel, rfl, by decide +kernel, by decide +kernel⟩ (by decide +kernel) hf hc hb len_need_whole v_need_whole
theorem ok_is_register {f : Addr} {fd : FuncData} {k : Nat} (F : L2.Fun K "is_register" "is_register" s_is_register f fd) (hf : FnsOk P w K mg base k ["is_whole"] [(pc f_is_whole)]) (hc : CnsOk K mg ["REGISTERS"] [PV.int (4)]) (hb : ∀ y, y ∈ bltNames → mg y = none) : FnOk P w K mg base CX0 (k + 1) f fd ["value"] (liSp K 1 (pc f_is_register)) :=
  fn_ok (N := C00.N_is_register) (body := C00.a_is_register) F ⟨rfl, rfl, rfl, by decide +kernel, rfl, by decide +kernel, by decide +kernel⟩ (by decide +kernel) hf hc hb len_is_register v_is_register
theorem ok_all_next {f : Addr} {fd : FuncData} {k : Nat} (F : L2.Fun K "all_next" "all_next" s_all_next f fd) (hf : FnsOk P w K mg base k ["next_places"] [c_next]) (hc : CnsOk K mg [] []) (hb : ∀ y, y ∈ bltNames → mg y = none) : FnOk P w K mg base CX0 (k + 1) f fd ["program"] (liSp K 1 c_all_next) :=
  fn_ok (N := C14.N_all_next) (body := C14.a_all_next) F ⟨rfl, rfl, rfl, by decide +kernel, rfl, by decide +kernel, by decide +kernel⟩ (by decide +kernel) hf hc hb len_all_next v_all_next
theorem ok_law_number {f : Addr} {fd : FuncData} {k : Nat} (F : L2.Fun K "_law_number" "_law_number" s_law_number f fd) (hf : FnsOk P w K mg base k ["_law_some"] [c_some]) (hc : CnsOk K mg [] []) (hb : ∀ y, y ∈ bltNames → mg y = none) : FnOk P w K mg base CX0 (k + 1) f fd ["cup"] (liSp K 1 c_number) :=
  fn_ok (N := C00.N_law_number) (body := C00.a_law_number) F ⟨rfl, rfl, rfl, by decide +kernel, rfl, by decide +kernel, by decide +kernel⟩ (by decide +kernel) hf hc hb len_law_number v_number
theorem ok_are_registers {f : Addr} {fd : FuncData} {k : Nat} (F : L2.Fun K "are_registers" "are_registers" s_are_registers f fd) (hf : FnsOk P w K mg base k ["is_register"] [(pc f_is_register)]) (hc : CnsOk K mg [] []) (hb : ∀ y, y ∈ bltNames → mg y = none) : FnOk P w K mg base CX0 (k + 1) f fd ["values"] (liSp K 1 (pc f_are_registers)) :=
  fn_ok (N := C00.N_are_registers) (body := C00.a_are_registers) F ⟨rfl, rfl, rfl, by decide +kernel, rfl, by decide +kernel, by decide +kernel⟩ (by decide +kernel) hf hc hb len_are_registers v_are_registers
theorem ok_need_place {f : Addr} {fd : FuncData} {k : Nat} (F : L2.Fun K "need_place" "need_place" s_need_place f fd) (hf : FnsOk P w K mg base k ["need_whole"] [(pc f_need_whole)]) (hc : CnsOk K mg [] []) (hb : ∀ y, y ∈ bltNames → mg y = none) : FnOk P w K mg base CX0 (k + 1) f fd ["program", "place"] (liSp K 2 c_need_place) :=
  fn_ok (N := C14.N_need_place) (body := C14.a_need_place) F ⟨rfl, rfl, rfl, by decide +kernel, rfl, by decide +kernel, by decide +kernel⟩ (by decide +kernel) hf hc hb len_need_place v_need_place
theorem ok_rows_in {f : Addr} {fd : FuncData} {k : Nat} (F : L2.Fun K "rows_in" "rows_in" s_rows_in f fd) (hf : FnsOk P w K mg base k ["all_next"] [c_all_next]) (hc : CnsOk K mg [] []) (hb : ∀ y, y ∈ bltNames → mg y = none) : FnOk P w K mg base CX0 (k + 1) f fd ["program", "most"] (liSp K 2 c_rows) :=
  fn_ok (N := C14.N_rows_in) (body := C14.a_rows_in) F ⟨rfl, rfl, rfl, by decide +kernel, rfl, by decide +kernel, by decide +kernel⟩ (by decide +kernel) hf hc hb len_rows_in v_rows
theorem ok_law_pieces {f : Addr} {fd : FuncData} {k : Nat} (F : L2.Fun K "_law_pieces" "_law_pieces" s_law_pieces f fd) (hf : FnsOk P w K mg base k ["_law_roll", "_law_some", "_law_number"] [c_roll, c_some, c_number]) (hc : CnsOk K mg [] []) (hb : ∀ y, y ∈ bltNames → mg y = none) : FnOk P w K mg base CX0 (k + 1) f fd ["cup", "place"] (liSp K 2 c_pieces) :=
  fn_ok (N := C00.N_law_pieces) (body := C00.a_law_pieces) F ⟨rfl, rfl, rfl, by decide +kernel, rfl, by decide +kernel, by decide +kernel⟩ (by decide +kernel) hf hc hb len_law_pieces v_pieces
theorem ok_law_order {f : Addr} {fd : FuncData} {k : Nat} (F : L2.Fun K "_law_order" "_law_order" s_law_order f fd) (hf : FnsOk P w K mg base k ["_law_roll", "_law_number", "_law_some"] [c_roll, c_number, c_some]) (hc : CnsOk K mg [] []) (hb : ∀ y, y ∈ bltNames → mg y = none) : FnOk P w K mg base CX0 (k + 1) f fd ["cup", "place", "many"] (liSp K 3 c_order) :=
  fn_ok (N := C00.N_law_order) (body := C00.a_law_order) F ⟨rfl, rfl, rfl, by decide +kernel, rfl, by decide +kernel, by decide +kernel⟩ (by decide +kernel) hf hc hb len_law_order v_order
theorem ok_fits_order {f : Addr} {fd : FuncData} {k : Nat} (F : L2.Fun K "fits_order" "fits_order" s_fits_order f fd) (hf : FnsOk P w K mg base k ["is_tuple_of", "is_whole", "is_register", "are_registers", "is_one_of"] [(pc f_is_tuple_of), (pc f_is_whole), (pc f_is_register), (pc f_are_registers), c_is_one_of]) (hc : CnsOk K mg ["LONG", "PUT", "MOST_PUT", "DO", "OPERATIONS", "IF", "RELATIONS", "GO", "FAULT", "MOST_FAULT"] [pvLong, PV.str "put", PV.int (255), PV.str "do", sts kOps, PV.str "if", sts kRel, PV.str "go", PV.str "fault", PV.int (9)]) (hb : ∀ y, y ∈ bltNames → mg y = none) : FnOk P w K mg base CX0 (k + 1) f fd ["many", "value"] (liSp K 2 (pc f_fits_order)) :=
  fn_ok (N := C00.N_fits_order) (body := C00.a_fits_order) F ⟨rfl, rfl, rfl, by decide +kernel, rfl, by decide +kernel, by decide +kernel⟩ (by decide +kernel) hf hc hb len_fits_order v_fits_order
theorem ok_law_program {f : Addr} {fd : FuncData} {k : Nat} (F : L2.Fun K "_law_program" "_law_program" s_law_program f fd) (hf : FnsOk P w K mg base k ["_law_roll", "_law_pieces", "_law_order", "_law_some"] [c_roll, c_pieces, c_order, c_some]) (hc : CnsOk K mg [] []) (hb : ∀ y, y ∈ bltNames → mg y = none) : FnOk P w K mg base CX0 (k + 1) f fd ["cup", "most"] (liSp K 2 c_program) :=
  fn_ok (N := C00.N_law_program) (body := C00.a_law_program) F ⟨rfl, rfl, rfl, by decide +kernel, rfl, by decide +kernel, by decide +kernel⟩ (by decide +kernel) hf hc hb len_law_program v_program
theorem ok_fits_program {f : Addr} {fd : FuncData} {k : Nat} (F : L2.Fun K "fits_program" "fits_program" s_fits_program f fd) (hf : FnsOk P w K mg base k ["fits_order", "is_tuple_of"] [(pc f_fits_order), (pc f_is_tuple_of)]) (hc : CnsOk K mg ["MOST_ORDERS", "FAULT", "END", "GO"] [PV.int (60), PV.str "fault", PV.str "end", PV.str "go"]) (hb : ∀ y, y ∈ bltNames → mg y = none) : FnOk P w K mg base CX0 (k + 1) f fd ["value"] (liSp K 1 (pc f_fits_program)) :=
  fn_ok (N := C00.N_fits_program) (body := C00.a_fits_program) F ⟨rfl, rfl, rfl, by decide +kernel, rfl, by decide +kernel, by decide +kernel⟩ (by decide +kernel) hf hc hb len_fits_program v_fits_program
theorem ok_need_program {f : Addr} {fd : FuncData} {k : Nat} (F : L2.Fun K "need_program" "need_program" s_need_program f fd) (hf : FnsOk P w K mg base k ["fits_program"] [(pc f_fits_program)]) (hc : CnsOk K mg [] []) (hb : ∀ y, y ∈ bltNames → mg y = none) : FnOk P w K mg base CX0 (k + 1) f fd ["value"] (liSp K 1 (pc f_need_program)) :=
  fn_ok (N := C14.N_need_program) (body := C14.a_need_program) F ⟨rfl, rfl, rfl, by decide +kernel, rfl, by decide +kernel, by decide +kernel⟩ (by decide +kernel) hf hc hb len_need_program v_need_program
theorem ok_leads_on {f : Addr} {fd : FuncData} {k : Nat} (F : L2.Fun K "leads_on" "leads_on" s_leads_on f fd) (hf : FnsOk P w K mg base k ["need_program", "need_place", "next_places"] [(pc f_need_program), c_need_place, c_next]) (hc : CnsOk K mg [] []) (hb : ∀ y, y ∈ bltNames → mg y = none) : FnOk P w K mg base CX0 (k + 1) f fd ["program", "place"] (liSp K 2 c_leads) :=
  fn_ok (N := C14.N_leads_on) (body := C14.a_leads_on) F ⟨rfl, rfl, rfl, by decide +kernel, rfl, by decide +kernel, by decide +kernel⟩ (by decide +kernel) hf hc hb len_leads_on v_leads
theorem ok_shortest_way {f : Addr} {fd : FuncData} {k : Nat} (F : L2.Fun K "shortest_way" "shortest_way" s_shortest_way f fd) (hf : FnsOk P w K mg base k ["need_program", "need_place", "way_in", "all_next"] [(pc f_need_program), c_need_place, c_way, c_all_next]) (hc : CnsOk K mg [] []) (hb : ∀ y, y ∈ bltNames → mg y = none) : FnOk P w K mg base CX0 (k + 1) f fd ["program", "place", "other"] (liSp K 3 c_short) :=
  fn_ok (N := C14.N_shortest_way) (body := C14.a_shortest_way) F ⟨rfl, rfl, rfl, by decide +kernel, rfl, by decide +kernel, by decide +kernel⟩ (by decide +kernel) hf hc hb len_shortest_way v_short
theorem ok_flow_rows {f : Addr} {fd : FuncData} {k : Nat} (F : L2.Fun K "flow_rows" "flow_rows" s_flow_rows f fd) (hf : FnsOk P w K mg base k ["need_program", "need_whole", "rows_in"] [(pc f_need_program), (pc f_need_whole), c_rows]) (hc : CnsOk K mg ["MOST"] [PV.int (200)]) (hb : ∀ y, y ∈ bltNames → mg y = none) : FnOk P w K mg base CX0 (k + 1) f fd ["program", "most"] (liSp K 2 c_flow) :=
  fn_ok (N := C14.N_flow_rows) (body := C14.a_flow_rows) F ⟨rfl, rfl, rfl, by decide +kernel, rfl, by decide +kernel, by decide +kernel⟩ (by decide +kernel) hf hc hb len_flow_rows v_flow
theorem ok_steps_to {f : Addr} {fd : FuncData} {k : Nat} (F : L2.Fun K "steps_to" "steps_to" s_steps_to f fd) (hf : FnsOk P w K mg base k ["need_program", "need_place", "need_whole", "rows_in"] [(pc f_need_program), c_need_place, (pc f_need_whole), c_rows]) (hc : CnsOk K mg ["MOST"] [PV.int (200)]) (hb : ∀ y, y ∈ bltNames → mg y = none) : FnOk P w K mg base CX0 (k + 1) f fd ["program", "place", "most"] (liSp K 3 c_steps) :=
  fn_ok (N := C14.N_steps_to) (body := C14.a_steps_to) F ⟨rfl, rfl, rfl, by decide +kernel, rfl, by decide +kernel, by decide +kernel⟩ (by decide +kernel) hf hc hb len_steps_to v_steps
theorem ok_law_like {f : Addr} {fd : FuncData} {k : Nat} (F : L2.Fun K "_law_like" "_law_like" s_law_like f fd) (hm : mg "_law_like" = some (.ref f)) (hk : PySem.W.keepIn K (.ref f) = true) (hbd : Binds K fd ["one", "other"] []) (hb : ∀ y, y ∈ bltNames → mg y = none)
    (h0 : ∃ j n, j ≤ k ∧ FnHas P w K mg base "_law_sort" j n (pc f_sort))
    : ∀ n, FnOk P w K mg base CX0 (k + 1 + n) f fd ["one", "other"] (liSp K 2 (c_like n))
  | 0 => F.ok (N := C00.N_law_like) ⟨rfl, rfl, rfl, by decide +kernel, rfl, by decide +kernel, by decide +kernel⟩ (fun vs H Q E h => h.1) fun cdv A outer s H vs Q E hr h => by obtain ⟨_, _, _, _, _, _, h, _⟩ := h; exact (no_law_like h).elim
  | n + 1 => fn_ok (N := C00.N_law_like) (fns := ["_law_sort", "_law_like"]) (cns := []) (Γl := [(pc f_sort), c_like n]) (κl := []) (body := C00.a_law_like) F ⟨rfl, rfl, rfl, by decide +kernel, rfl, by decide +kernel, by decide +kernel⟩ (by decide +kernel) ⟨(match h0 with | ⟨j, m, q, r⟩ => ⟨j, m, Nat.le_trans q (Nat.le_trans (Nat.le_succ k) (Nat.le_add_right _ n)), r⟩), ⟨k + 1 + n, 2, Nat.le_refl _, fn_has (ok_law_like F hm hk hbd hb h0 n) hm hk hbd (len_law_like n)⟩, trivial⟩ trivial hb (len_law_like (n + 1)) (v_likeN n)
theorem ok_law_right {f : Addr} {fd : FuncData} {k : Nat} (F : L2.Fun K "_law_right" "_law_right" s_law_right f fd) (hf : FnsOk P w K mg base k ["_law_rows", "_law_like", "flow_rows", "_law_from", "_law_some", "_law_roll", "_law_after", "leads_on", "steps_to", "shortest_way"] [c_lawrows, (c_like 5), c_flow, c_from, c_some, c_roll, c_next, c_leads, c_steps, c_short]) (hc : CnsOk K mg [] []) (hb : ∀ y, y ∈ bltNames → mg y = none) : FnOk P w K mg base CX0 (k + 1) f fd ["cup", "program"] (liSp K 2 c_right14) :=
  fn_ok (N := C14.N_law_right) (body := C14.a_law_right) F ⟨rfl, rfl, rfl, by decide +kernel, rfl, by decide +kernel, by decide +kernel⟩ (by decide +kernel) hf hc hb len_law_right v_right14
theorem ok_law_written_right {f : Addr} {fd : FuncData} {k : Nat} (F : L2.Fun K "_law_written_right" "_law_written_right" s_law_written_right f fd) (hf : FnsOk P w K mg base k ["steps_to", "flow_rows", "_law_like"] [c_steps, c_flow, (c_like 5)]) (hc : CnsOk K mg [] []) (hb : ∀ y, y ∈ bltNames → mg y = none) : FnOk P w K mg base CX0 (k + 1) f fd [] (liSp K 0 c_written14) :=
  fn_ok (N := C14.N_law_written_right) (body := C14.a_law_written_right) F ⟨rfl, rfl, rfl, by decide +kernel, rfl, by decide +kernel, by decide +kernel⟩ (by decide +kernel) hf hc hb len_law_written_right v_written14
theorem ok_law {f : Addr} {fd : FuncData} {k : Nat} (F : L2.Fun K "law" "law" s_law f fd) (hf : FnsOk P w K mg base k ["_law_written_right", "_law_cup", "_law_right", "_law_program"] [c_written14, c_cup, c_right14, c_program]) (hc : CnsOk K mg [] []) (hb : ∀ y, y ∈ bltNames → mg y = none) : FnOk P w K mg base CX0 (k + 1) f fd ["script"] (liSp K 1 conLaw) :=
  fn_ok (N := C14.N_law) (body := C14.a_law) F ⟨rfl, rfl, rfl, by decide +kernel, rfl, by decide +kernel, by decide +kernel⟩ (by decide +kernel) hf hc hb len_law v_law14
end
theorem all_mk {l : PySem.W.OpenLaw} {w : World} {K : PySem.W.Frag} {h : Heap} {mg : Str → Option Value} {fa : Addr} (X : K.In h) (G : h.Ns mainGlobals mg) (hfa : mg "law" = some (.ref fa))
    {f0 : Addr} {od0 an0 : Option Addr} {sl0 : Array (Option Value)} {oc0 kV0 dc0 pm0 cd0 ct0 : Value}
    (a0 : PySem.W.nsIn K mainGlobals "is_integer" = some (some (.ref f0))) (l0 : K.lookup f0 = some ⟨oc0, od0, .func (PySem.W.fnOf "is_integer" "is_integer" (defArgs s_is_integer) (defBody s_is_integer) (defScope s_is_integer) .none kV0 dc0 pm0 an0 cd0 ct0), sl0⟩) (c0 : PySem.W.codeIn K cd0 "is_integer" = true) (k0 : PySem.W.keepIn K (.ref f0) = true)
    {f1 : Addr} {od1 an1 : Option Addr} {sl1 : Array (Option Value)} {oc1 kV1 dc1 pm1 cd1 ct1 : Value}
    (a1 : PySem.W.nsIn K mainGlobals "is_whole" = some (some (.ref f1))) (l1 : K.lookup f1 = some ⟨oc1, od1, .func (PySem.W.fnOf "is_whole" "is_whole" (defArgs s_is_whole) (defBody s_is_whole) (defScope s_is_whole) .none kV1 dc1 pm1 an1 cd1 ct1), sl1⟩) (c1 : PySem.W.codeIn K cd1 "is_whole" = true) (k1 : PySem.W.keepIn K (.ref f1) = true)
    {f2 : Addr} {od2 an2 : Option Addr} {sl2 : Array (Option Value)} {oc2 kV2 dc2 pm2 cd2 ct2 : Value}
    (a2 : PySem.W.nsIn K mainGlobals "need_whole" = some (some (.ref f2))) (l2 : K.lookup f2 = some ⟨oc2, od2, .func (PySem.W.fnOf "need_whole" "need_whole" (defArgs s_need_whole) (defBody s_need_whole) (defScope s_need_whole) .none kV2 dc2 pm2 an2 cd2 ct2), sl2⟩) (c2 : PySem.W.codeIn K cd2 "need_whole" = true) (k2 : PySem.W.keepIn K (.ref f2) = true)
    {f3 : Addr} {od3 an3 : Option Addr} {sl3 : Array (Option Value)} {oc3 kV3 dc3 pm3 cd3 ct3 : Value}
    (a3 : PySem.W.nsIn K mainGlobals "is_tuple_of" = some (some (.ref f3))) (l3 : K.lookup f3 = some ⟨oc3, od3, .func (PySem.W.fnOf "is_tuple_of" "is_tuple_of" (defArgs s_is_tuple_of) (defBody s_is_tuple_of) (defScope s_is_tuple_of) .none kV3 dc3 pm3 an3 cd3 ct3), sl3⟩) (c3 : PySem.W.codeIn K cd3 "is_tuple_of" = true) (k3 : PySem.W.keepIn K (.ref f3) = true)
    {f4 : Addr} {od4 an4 : Option Addr} {sl4 : Array (Option Value)} {oc4 kV4 dc4 pm4 cd4 ct4 : Value}
    (a4 : PySem.W.nsIn K mainGlobals "is_one_of" = some (some (.ref f4))) (l4 : K.lookup f4 = some ⟨oc4, od4, .func (PySem.W.fnOf "is_one_of" "is_one_of" (defArgs s_is_one_of) (defBody s_is_one_of) (defScope s_is_one_of) .none kV4 dc4 pm4 an4 cd4 ct4), sl4⟩) (c4 : PySem.W.codeIn K cd4 "is_one_of" = true) (k4 : PySem.W.keepIn K (.ref f4) = true)
    {f5 : Addr} {od5 an5 : Option Addr} {sl5 : Array (Option Value)} {oc5 kV5 dc5 pm5 cd5 ct5 : Value}
    (a5 : PySem.W.nsIn K mainGlobals "is_register" = some (some (.ref f5))) (l5 : K.lookup f5 = some ⟨oc5, od5, .func (PySem.W.fnOf "is_register" "is_register" (defArgs s_is_register) (defBody s_is_register) (defScope s_is_register) .none kV5 dc5 pm5 an5 cd5 ct5), sl5⟩) (c5 : PySem.W.codeIn K cd5 "is_register" = true) (k5 : PySem.W.keepIn K (.ref f5) = true)
    {f6 : Addr} {od6 an6 : Option Addr} {sl6 : Array (Option Value)} {oc6 kV6 dc6 pm6 cd6 ct6 : Value}
    (a6 : PySem.W.nsIn K mainGlobals "are_registers" = some (some (.ref f6))) (l6 : K.lookup f6 = some ⟨oc6, od6, .func (PySem.W.fnOf "are_registers" "are_registers" (defArgs s_are_registers) (defBody s_are_registers) (defScope s_are_registers) .none kV6 dc6 pm6 an6 cd6 ct6), sl6⟩) (c6 : PySem.W.codeIn K cd6 "are_registers" = true) (k6 : PySem.W.keepIn K (.ref f6) = true)
    {f7 : Addr} {od7 an7 : Option Addr} {sl7 : Array (Option Value)} {oc7 kV7 dc7 pm7 cd7 ct7 : Value}
    (a7 : PySem.W.nsIn K mainGlobals "fits_order" = some (some (.ref f7))) (l7 : K.lookup f7 = some ⟨oc7, od7, .func (PySem.W.fnOf "fits_order" "fits_order" (defArgs s_fits_order) (defBody s_fits_order) (defScope s_fits_order) .none kV7 dc7 pm7 an7 cd7 ct7), sl7⟩) (c7 : PySem.W.codeIn K cd7 "fits_order" = true) (k7 : PySem.W.keepIn K (.ref f7) = true)
    {f8 : Addr} {od8 an8 : Option Addr} {sl8 : Array (Option Value)} {oc8 kV8 dc8 pm8 cd8 ct8 : Value}
    (a8 : PySem.W.nsIn K mainGlobals "fits_program" = some (some (.ref f8))) (l8 : K.lookup f8 = some ⟨oc8, od8, .func (PySem.W.fnOf "fits_program" "fits_program" (defArgs s_fits_program) (defBody s_fits_program) (defScope s_fits_program) .none kV8 dc8 pm8 an8 cd8 ct8), sl8⟩) (c8 : PySem.W.codeIn K cd8 "fits_program" = true) (k8 : PySem.W.keepIn K (.ref f8) = true)
    {f9 : Addr} {od9 an9 : Option Addr} {sl9 : Array (Option Value)} {oc9 kV9 dc9 pm9 cd9 ct9 : Value}
    (a9 : PySem.W.nsIn K mainGlobals "need_program" = some (some (.ref f9))) (l9 : K.lookup f9 = some ⟨oc9, od9, .func (PySem.W.fnOf "need_program" "need_program" (defArgs s_need_program) (defBody s_need_program) (defScope s_need_program) .none kV9 dc9 pm9 an9 cd9 ct9), sl9⟩) (c9 : PySem.W.codeIn K cd9 "need_program" = true) (k9 : PySem.W.keepIn K (.ref f9) = true)
    {f10 : Addr} {od10 an10 : Option Addr} {sl10 : Array (Option Value)} {oc10 kV10 dc10 pm10 cd10 ct10 : Value}
    (a10 : PySem.W.nsIn K mainGlobals "stops" = some (some (.ref f10))) (l10 : K.lookup f10 = some ⟨oc10, od10, .func (PySem.W.fnOf "stops" "stops" (defArgs s_stops) (defBody s_stops) (defScope s_stops) .none kV10 dc10 pm10 an10 cd10 ct10), sl10⟩) (c10 : PySem.W.codeIn K cd10 "stops" = true) (k10 : PySem.W.keepIn K (.ref f10) = true)
    {f11 : Addr} {od11 an11 : Option Addr} {sl11 : Array (Option Value)} {oc11 kV11 dc11 pm11 cd11 ct11 : Value}
    (a11 : PySem.W.nsIn K mainGlobals "next_places" = some (some (.ref f11))) (l11 : K.lookup f11 = some ⟨oc11, od11, .func (PySem.W.fnOf "next_places" "next_places" (defArgs s_next_places) (defBody s_next_places) (defScope s_next_places) .none kV11 dc11 pm11 an11 cd11 ct11), sl11⟩) (c11 : PySem.W.codeIn K cd11 "next_places" = true) (k11 : PySem.W.keepIn K (.ref f11) = true)
    {f12 : Addr} {od12 an12 : Option Addr} {sl12 : Array (Option Value)} {oc12 kV12 dc12 pm12 cd12 ct12 : Value}
    (a12 : PySem.W.nsIn K mainGlobals "all_next" = some (some (.ref f12))) (l12 : K.lookup f12 = some ⟨oc12, od12, .func (PySem.W.fnOf "all_next" "all_next" (defArgs s_all_next) (defBody s_all_next) (defScope s_all_next) .none kV12 dc12 pm12 an12 cd12 ct12), sl12⟩) (c12 : PySem.W.codeIn K cd12 "all_next" = true) (k12 : PySem.W.keepIn K (.ref f12) = true)
    {f13 : Addr} {od13 an13 : Option Addr} {sl13 : Array (Option Value)} {oc13 kV13 dc13 pm13 cd13 ct13 : Value}
    (a13 : PySem.W.nsIn K mainGlobals "way_in" = some (some (.ref f13))) (l13 : K.lookup f13 = some ⟨oc13, od13, .func (PySem.W.fnOf "way_in" "way_in" (defArgs s_way_in) (defBody s_way_in) (defScope s_way_in) .none kV13 dc13 pm13 an13 cd13 ct13), sl13⟩) (c13 : PySem.W.codeIn K cd13 "way_in" = true) (k13 : PySem.W.keepIn K (.ref f13) = true)
    {f14 : Addr} {od14 an14 : Option Addr} {sl14 : Array (Option Value)} {oc14 kV14 dc14 pm14 cd14 ct14 : Value}
    (a14 : PySem.W.nsIn K mainGlobals "need_place" = some (some (.ref f14))) (l14 : K.lookup f14 = some ⟨oc14, od14, .func (PySem.W.fnOf "need_place" "need_place" (defArgs s_need_place) (defBody s_need_place) (defScope s_need_place) .none kV14 dc14 pm14 an14 cd14 ct14), sl14⟩) (c14 : PySem.W.codeIn K cd14 "need_place" = true) (k14 : PySem.W.keepIn K (.ref f14) = true)
    {f15 : Addr} {od15 an15 : Option Addr} {sl15 : Array (Option Value)} {oc15 kV15 dc15 pm15 cd15 ct15 : Value}
    (a15 : PySem.W.nsIn K mainGlobals "leads_on" = some (some (.ref f15))) (l15 : K.lookup f15 = some ⟨oc15, od15, .func (PySem.W.fnOf "leads_on" "leads_on" (defArgs s_leads_on) (defBody s_leads_on) (defScope s_leads_on) .none kV15 dc15 pm15 an15 cd15 ct15), sl15⟩) (c15 : PySem.W.codeIn K cd15 "leads_on" = true) (k15 : PySem.W.keepIn K (.ref f15) = true)
    {f16 : Addr} {od16 an16 : Option Addr} {sl16 : Array (Option Value)} {oc16 kV16 dc16 pm16 cd16 ct16 : Value}
    (a16 : PySem.W.nsIn K mainGlobals "shortest_way" = some (some (.ref f16))) (l16 : K.lookup f16 = some ⟨oc16, od16, .func (PySem.W.fnOf "shortest_way" "shortest_way" (defArgs s_shortest_way) (defBody s_shortest_way) (defScope s_shortest_way) .none kV16 dc16 pm16 an16 cd16 ct16), sl16⟩) (c16 : PySem.W.codeIn K cd16 "shortest_way" = true) (k16 : PySem.W.keepIn K (.ref f16) = true)
    {f17 : Addr} {od17 an17 : Option Addr} {sl17 : Array (Option Value)} {oc17 kV17 dc17 pm17 cd17 ct17 : Value}
    (a17 : PySem.W.nsIn K mainGlobals "rows_in" = some (some (.ref f17))) (l17 : K.lookup f17 = some ⟨oc17, od17, .func (PySem.W.fnOf "rows_in" "rows_in" (defArgs s_rows_in) (defBody s_rows_in) (defScope s_rows_in) .none kV17 dc17 pm17 an17 cd17 ct17), sl17⟩) (c17 : PySem.W.codeIn K cd17 "rows_in" = true) (k17 : PySem.W.keepIn K (.ref f17) = true)
    {f18 : Addr} {od18 an18 : Option Addr} {sl18 : Array (Option Value)} {oc18 kV18 dc18 pm18 cd18 ct18 : Value}
    (a18 : PySem.W.nsIn K mainGlobals "flow_rows" = some (some (.ref f18))) (l18 : K.lookup f18 = some ⟨oc18, od18, .func (PySem.W.fnOf "flow_rows" "flow_rows" (defArgs s_flow_rows) (defBody s_flow_rows) (defScope s_flow_rows) .none kV18 dc18 pm18 an18 cd18 ct18), sl18⟩) (c18 : PySem.W.codeIn K cd18 "flow_rows" = true) (k18 : PySem.W.keepIn K (.ref f18) = true)
    {f19 : Addr} {od19 an19 : Option Addr} {sl19 : Array (Option Value)} {oc19 kV19 dc19 pm19 cd19 ct19 : Value}
    (a19 : PySem.W.nsIn K mainGlobals "steps_to" = some (some (.ref f19))) (l19 : K.lookup f19 = some ⟨oc19, od19, .func (PySem.W.fnOf "steps_to" "steps_to" (defArgs s_steps_to) (defBody s_steps_to) (defScope s_steps_to) .none kV19 dc19 pm19 an19 cd19 ct19), sl19⟩) (c19 : PySem.W.codeIn K cd19 "steps_to" = true) (k19 : PySem.W.keepIn K (.ref f19) = true)
    {f20 : Addr} {od20 an20 : Option Addr} {sl20 : Array (Option Value)} {oc20 kV20 dc20 pm20 cd20 ct20 : Value}
    (a20 : PySem.W.nsIn K mainGlobals "_law_cup" = some (some (.ref f20))) (l20 : K.lookup f20 = some ⟨oc20, od20, .func (PySem.W.fnOf "_law_cup" "_law_cup" (defArgs s_law_cup) (defBody s_law_cup) (defScope s_law_cup) .none kV20 dc20 pm20 an20 cd20 ct20), sl20⟩) (c20 : PySem.W.codeIn K cd20 "_law_cup" = true) (k20 : PySem.W.keepIn K (.ref f20) = true)
    {f21 : Addr} {od21 an21 : Option Addr} {sl21 : Array (Option Value)} {oc21 kV21 dc21 pm21 cd21 ct21 : Value}
    (a21 : PySem.W.nsIn K mainGlobals "_law_roll" = some (some (.ref f21))) (l21 : K.lookup f21 = some ⟨oc21, od21, .func (PySem.W.fnOf "_law_roll" "_law_roll" (defArgs s_law_roll) (defBody s_law_roll) (defScope s_law_roll) .none kV21 dc21 pm21 an21 cd21 ct21), sl21⟩) (c21 : PySem.W.codeIn K cd21 "_law_roll" = true) (k21 : PySem.W.keepIn K (.ref f21) = true)
    {f22 : Addr} {od22 an22 : Option Addr} {sl22 : Array (Option Value)} {oc22 kV22 dc22 pm22 cd22 ct22 : Value}
    (a22 : PySem.W.nsIn K mainGlobals "_law_some" = some (some (.ref f22))) (l22 : K.lookup f22 = some ⟨oc22, od22, .func (PySem.W.fnOf "_law_some" "_law_some" (defArgs s_law_some) (defBody s_law_some) (defScope s_law_some) .none kV22 dc22 pm22 an22 cd22 ct22), sl22⟩) (c22 : PySem.W.codeIn K cd22 "_law_some" = true) (k22 : PySem.W.keepIn K (.ref f22) = true)
    {f23 : Addr} {od23 an23 : Option Addr} {sl23 : Array (Option Value)} {oc23 kV23 dc23 pm23 cd23 ct23 : Value}
    (a23 : PySem.W.nsIn K mainGlobals "_law_sort" = some (some (.ref f23))) (l23 : K.lookup f23 = some ⟨oc23, od23, .func (PySem.W.fnOf "_law_sort" "_law_sort" (defArgs s_law_sort) (defBody s_law_sort) (defScope s_law_sort) .none kV23 dc23 pm23 an23 cd23 ct23), sl23⟩) (c23 : PySem.W.codeIn K cd23 "_law_sort" = true) (k23 : PySem.W.keepIn K (.ref f23) = true)
    {f24 : Addr} {od24 an24 : Option Addr} {sl24 : Array (Option Value)} {oc24 kV24 dc24 pm24 cd24 ct24 : Value}
    (a24 : PySem.W.nsIn K mainGlobals "_law_like" = some (some (.ref f24))) (l24 : K.lookup f24 = some ⟨oc24, od24, .func (PySem.W.fnOf "_law_like" "_law_like" (defArgs s_law_like) (defBody s_law_like) (defScope s_law_like) .none kV24 dc24 pm24 an24 cd24 ct24), sl24⟩) (c24 : PySem.W.codeIn K cd24 "_law_like" = true) (k24 : PySem.W.keepIn K (.ref f24) = true)
    {f25 : Addr} {od25 an25 : Option Addr} {sl25 : Array (Option Value)} {oc25 kV25 dc25 pm25 cd25 ct25 : Value}
    (a25 : PySem.W.nsIn K mainGlobals "_law_number" = some (some (.ref f25))) (l25 : K.lookup f25 = some ⟨oc25, od25, .func (PySem.W.fnOf "_law_number" "_law_number" (defArgs s_law_number) (defBody s_law_number) (defScope s_law_number) .none kV25 dc25 pm25 an25 cd25 ct25), sl25⟩) (c25 : PySem.W.codeIn K cd25 "_law_number" = true) (k25 : PySem.W.keepIn K (.ref f25) = true)
    {f26 : Addr} {od26 an26 : Option Addr} {sl26 : Array (Option Value)} {oc26 kV26 dc26 pm26 cd26 ct26 : Value}
    (a26 : PySem.W.nsIn K mainGlobals "_law_pieces" = some (some (.ref f26))) (l26 : K.lookup f26 = some ⟨oc26, od26, .func (PySem.W.fnOf "_law_pieces" "_law_pieces" (defArgs s_law_pieces) (defBody s_law_pieces) (defScope s_law_pieces) .none kV26 dc26 pm26 an26 cd26 ct26), sl26⟩) (c26 : PySem.W.codeIn K cd26 "_law_pieces" = true) (k26 : PySem.W.keepIn K (.ref f26) = true)
    {f27 : Addr} {od27 an27 : Option Addr} {sl27 : Array (Option Value)} {oc27 kV27 dc27 pm27 cd27 ct27 : Value}
    (a27 : PySem.W.nsIn K mainGlobals "_law_order" = some (some (.ref f27))) (l27 : K.lookup f27 = some ⟨oc27, od27, .func (PySem.W.fnOf "_law_order" "_law_order" (defArgs s_law_order) (defBody s_law_order) (defScope s_law_order) .none kV27 dc27 pm27 an27 cd27 ct27), sl27⟩) (c27 : PySem.W.codeIn K cd27 "_law_order" = true) (k27 : PySem.W.keepIn K (.ref f27) = true)
    {f28 : Addr} {od28 an28 : Option Addr} {sl28 : Array (Option Value)} {oc28 kV28 dc28 pm28 cd28 ct28 : Value}
    (a28 : PySem.W.nsIn K mainGlobals "_law_program" = some (some (.ref f28))) (l28 : K.lookup f28 = some ⟨oc28, od28, .func (PySem.W.fnOf "_law_program" "_law_program" (defArgs s_law_program) (defBody s_law_program) (defScope s_law_program) .none kV28 dc28 pm28 an28 cd28 ct28), sl28⟩) (c28 : PySem.W.codeIn K cd28 "_law_program" = true) (k28 : PySem.W.keepIn K (.ref f28) = true)
    {f29 : Addr} {od29 an29 : Option Addr} {sl29 : Array (Option Value)} {oc29 kV29 dc29 pm29 cd29 ct29 : Value}
    (a29 : PySem.W.nsIn K mainGlobals "_law_after" = some (some (.ref f29))) (l29 : K.lookup f29 = some ⟨oc29, od29, .func (PySem.W.fnOf "_law_after" "_law_after" (defArgs s_law_after) (defBody s_law_after) (defScope s_law_after) .none kV29 dc29 pm29 an29 cd29 ct29), sl29⟩) (c29 : PySem.W.codeIn K cd29 "_law_after" = true) (k29 : PySem.W.keepIn K (.ref f29) = true)
    {f30 : Addr} {od30 an30 : Option Addr} {sl30 : Array (Option Value)} {oc30 kV30 dc30 pm30 cd30 ct30 : Value}
    (a30 : PySem.W.nsIn K mainGlobals "_law_rows" = some (some (.ref f30))) (l30 : K.lookup f30 = some ⟨oc30, od30, .func (PySem.W.fnOf "_law_rows" "_law_rows" (defArgs s_law_rows) (defBody s_law_rows) (defScope s_law_rows) .none kV30 dc30 pm30 an30 cd30 ct30), sl30⟩) (c30 : PySem.W.codeIn K cd30 "_law_rows" = true) (k30 : PySem.W.keepIn K (.ref f30) = true)
    {f31 : Addr} {od31 an31 : Option Addr} {sl31 : Array (Option Value)} {oc31 kV31 dc31 pm31 cd31 ct31 : Value}
    (a31 : PySem.W.nsIn K mainGlobals "_law_from" = some (some (.ref f31))) (l31 : K.lookup f31 = some ⟨oc31, od31, .func (PySem.W.fnOf "_law_from" "_law_from" (defArgs s_law_from) (defBody s_law_from) (defScope s_law_from) .none kV31 dc31 pm31 an31 cd31 ct31), sl31⟩) (c31 : PySem.W.codeIn K cd31 "_law_from" = true) (k31 : PySem.W.keepIn K (.ref f31) = true)
    {f32 : Addr} {od32 an32 : Option Addr} {sl32 : Array (Option Value)} {oc32 kV32 dc32 pm32 cd32 ct32 : Value}
    (a32 : PySem.W.nsIn K mainGlobals "_law_right" = some (some (.ref f32))) (l32 : K.lookup f32 = some ⟨oc32, od32, .func (PySem.W.fnOf "_law_right" "_law_right" (defArgs s_law_right) (defBody s_law_right) (defScope s_law_right) .none kV32 dc32 pm32 an32 cd32 ct32), sl32⟩) (c32 : PySem.W.codeIn K cd32 "_law_right" = true) (k32 : PySem.W.keepIn K (.ref f32) = true)
    {f33 : Addr} {od33 an33 : Option Addr} {sl33 : Array (Option Value)} {oc33 kV33 dc33 pm33 cd33 ct33 : Value}
    (a33 : PySem.W.nsIn K mainGlobals "_law_written_right" = some (some (.ref f33))) (l33 : K.lookup f33 = some ⟨oc33, od33, .func (PySem.W.fnOf "_law_written_right" "_law_written_right" (defArgs s_law_written_right) (defBody s_law_written_right) (defScope s_law_written_right) .none kV33 dc33 pm33 an33 cd33 ct33), sl33⟩) (c33 : PySem.W.codeIn K cd33 "_law_written_right" = true) (k33 : PySem.W.keepIn K (.ref f33) = true)
    {f34 : Addr} {od34 an34 : Option Addr} {sl34 : Array (Option Value)} {oc34 kV34 dc34 pm34 cd34 ct34 : Value}
    (a34 : PySem.W.nsIn K mainGlobals "law" = some (some (.ref f34))) (l34 : K.lookup f34 = some ⟨oc34, od34, .func (PySem.W.fnOf "law" "law" (defArgs s_law) (defBody s_law) (defScope s_law) .none kV34 dc34 pm34 an34 cd34 ct34), sl34⟩) (c34 : PySem.W.codeIn K cd34 "law" = true) (k34 : PySem.W.keepIn K (.ref f34) = true)
    {tk0x1 : Tok} (vK0 : PySem.W.nsIn K mainGlobals "REGISTERS" = some (some (Value.int (4) tk0x1))) 
    {tk1x1 : Tok} {tk1x2 : Tok} {ca1x3 : Addr} {cd1x4 : Option Addr} {cn1x5 : Nat} {cs1x6 : Array (Option Value)} {tk1x8 : Tok} {tk1x9 : Tok} {ca1x10 : Addr} {cd1x11 : Option Addr} {cn1x12 : Nat} {cs1x13 : Array (Option Value)} {tk1x15 : Tok} {tk1x16 : Tok} {ca1x17 : Addr} {cd1x18 : Option Addr} {cn1x19 : Nat} {cs1x20 : Array (Option Value)} {tk1x22 : Tok} {tk1x23 : Tok} {ca1x24 : Addr} {cd1x25 : Option Addr} {cn1x26 : Nat} {cs1x27 : Array (Option Value)} {tk1x29 : Tok} {tk1x30 : Tok} {ca1x31 : Addr} {cd1x32 : Option Addr} {cn1x33 : Nat} {cs1x34 : Array (Option Value)} {tk1x36 : Tok} {tk1x37 : Tok} {ca1x38 : Addr} {cd1x39 : Option Addr} {cn1x40 : Nat} {cs1x41 : Array (Option Value)} {tk1x43 : Tok} {tk1x44 : Tok} {ca1x45 : Addr} {cd1x46 : Option Addr} {cn1x47 : Nat} {cs1x48 : Array (Option Value)} {tk1x50 : Tok} {tk1x51 : Tok} {ca1x52 : Addr} {cd1x53 : Option Addr} {cn1x54 : Nat} {cs1x55 : Array (Option Value)} {tk1x57 : Tok} {tk1x58 : Tok} {ca1x59 : Addr} {cd1x60 : Option Addr} {cn1x61 : Nat} {cs1x62 : Array (Option Value)} {ca1x64 : Addr} {cd1x65 : Option Addr} {cn1x66 : Nat} {cs1x67 : Array (Option Value)} (vK1 : PySem.W.nsIn K mainGlobals "LONG" = some (some (Value.ref ca1x64))) (wK1x7 : K.lookup ca1x3 = some ⟨.type "tuple", cd1x4, .seq #[(Value.str "put" tk1x1), (Value.int (3) tk1x2)] cn1x5, cs1x6⟩) (wK1x14 : K.lookup ca1x10 = some ⟨.type "tuple", cd1x11, .seq #[(Value.str "copy" tk1x8), (Value.int (3) tk1x9)] cn1x12, cs1x13⟩) (wK1x21 : K.lookup ca1x17 = some ⟨.type "tuple", cd1x18, .seq #[(Value.str "do" tk1x15), (Value.int (4) tk1x16)] cn1x19, cs1x20⟩) (wK1x28 : K.lookup ca1x24 = some ⟨.type "tuple", cd1x25, .seq #[(Value.str "load" tk1x22), (Value.int (3) tk1x23)] cn1x26, cs1x27⟩) (wK1x35 : K.lookup ca1x31 = some ⟨.type "tuple", cd1x32, .seq #[(Value.str "store" tk1x29), (Value.int (3) tk1x30)] cn1x33, cs1x34⟩) (wK1x42 : K.lookup ca1x38 = some ⟨.type "tuple", cd1x39, .seq #[(Value.str "if" tk1x36), (Value.int (5) tk1x37)] cn1x40, cs1x41⟩) (wK1x49 : K.lookup ca1x45 = some ⟨.type "tuple", cd1x46, .seq #[(Value.str "go" tk1x43), (Value.int (2) tk1x44)] cn1x47, cs1x48⟩) (wK1x56 : K.lookup ca1x52 = some ⟨.type "tuple", cd1x53, .seq #[(Value.str "end" tk1x50), (Value.int (1) tk1x51)] cn1x54, cs1x55⟩) (wK1x63 : K.lookup ca1x59 = some ⟨.type "tuple", cd1x60, .seq #[(Value.str "fault" tk1x57), (Value.int (2) tk1x58)] cn1x61, cs1x62⟩) (wK1x68 : K.lookup ca1x64 = some ⟨.type "tuple", cd1x65, .seq #[(Value.ref ca1x3), (Value.ref ca1x10), (Value.ref ca1x17), (Value.ref ca1x24), (Value.ref ca1x31), (Value.ref ca1x38), (Value.ref ca1x45), (Value.ref ca1x52), (Value.ref ca1x59)] cn1x66, cs1x67⟩)
    {tk2x1 : Tok} (vK2 : PySem.W.nsIn K mainGlobals "PUT" = some (some (Value.str "put" tk2x1))) 
    {tk3x1 : Tok} (vK3 : PySem.W.nsIn K mainGlobals "MOST_PUT" = some (some (Value.int (255) tk3x1))) 
    {tk4x1 : Tok} (vK4 : PySem.W.nsIn K mainGlobals "DO" = some (some (Value.str "do" tk4x1))) 
    {tk5x1 : Tok} {tk5x2 : Tok} {tk5x3 : Tok} {tk5x4 : Tok} {tk5x5 : Tok} {tk5x6 : Tok} {tk5x7 : Tok} {tk5x8 : Tok} {ca5x9 : Addr} {cd5x10 : Option Addr} {cn5x11 : Nat} {cs5x12 : Array (Option Value)} (vK5 : PySem.W.nsIn K mainGlobals "OPERATIONS" = some (some (Value.ref ca5x9))) (wK5x13 : K.lookup ca5x9 = some ⟨.type "tuple", cd5x10, .seq #[(Value.str "add" tk5x1), (Value.str "sub" tk5x2), (Value.str "mul" tk5x3), (Value.str "and" tk5x4), (Value.str "or" tk5x5), (Value.str "xor" tk5x6), (Value.str "left" tk5x7), (Value.str "right" tk5x8)] cn5x11, cs5x12⟩)
    {tk6x1 : Tok} (vK6 : PySem.W.nsIn K mainGlobals "IF" = some (some (Value.str "if" tk6x1))) 
    {tk7x1 : Tok} {tk7x2 : Tok} {ca7x3 : Addr} {cd7x4 : Option Addr} {cn7x5 : Nat} {cs7x6 : Array (Option Value)} (vK7 : PySem.W.nsIn K mainGlobals "RELATIONS" = some (some (Value.ref ca7x3))) (wK7x7 : K.lookup ca7x3 = some ⟨.type "tuple", cd7x4, .seq #[(Value.str "same" tk7x1), (Value.str "less" tk7x2)] cn7x5, cs7x6⟩)
    {tk8x1 : Tok} (vK8 : PySem.W.nsIn K mainGlobals "GO" = some (some (Value.str "go" tk8x1))) 
    {tk9x1 : Tok} (vK9 : PySem.W.nsIn K mainGlobals "FAULT" = some (some (Value.str "fault" tk9x1))) 
    {tk10x1 : Tok} (vK10 : PySem.W.nsIn K mainGlobals "MOST_FAULT" = some (some (Value.int (9) tk10x1))) 
    {tk11x1 : Tok} (vK11 : PySem.W.nsIn K mainGlobals "MOST_ORDERS" = some (some (Value.int (60) tk11x1))) 
    {tk12x1 : Tok} (vK12 : PySem.W.nsIn K mainGlobals "END" = some (some (Value.str "end" tk12x1))) 
    {tk13x1 : Tok} (vK13 : PySem.W.nsIn K mainGlobals "MOST" = some (some (Value.int (200) tk13x1))) 
    (z0 : PySem.W.nsIn K mainGlobals "len" = some none)
    (z1 : PySem.W.nsIn K mainGlobals "abs" = some none)
    (z2 : PySem.W.nsIn K mainGlobals "max" = some none)
    (z3 : PySem.W.nsIn K mainGlobals "min" = some none)
    (z4 : PySem.W.nsIn K mainGlobals "sum" = some none)
    (z5 : PySem.W.nsIn K mainGlobals "all" = some none)
    (z6 : PySem.W.nsIn K mainGlobals "any" = some none)
    (z7 : PySem.W.nsIn K mainGlobals "sorted" = some none)
    (z8 : PySem.W.nsIn K mainGlobals "tuple" = some none)
    (z9 : PySem.W.nsIn K mainGlobals "list" = some none)
    (z10 : PySem.W.nsIn K mainGlobals "int" = some none)
    (z11 : PySem.W.nsIn K mainGlobals "bool" = some none)
    (z12 : PySem.W.nsIn K mainGlobals "str" = some none)
    (z13 : PySem.W.nsIn K mainGlobals "dict" = some none)
    (z14 : PySem.W.nsIn K mainGlobals "isinstance" = some none)
    (z15 : PySem.W.nsIn K mainGlobals "range" = some none)
    (z16 : PySem.W.nsIn K mainGlobals "enumerate" = some none)
    (z17 : PySem.W.nsIn K mainGlobals "zip" = some none)
    (z18 : PySem.W.nsIn K mainGlobals "set" = some none)
    : ∃ fd : FuncData, (∀ (s : Shared) (v : Value), BindsTo s fd ⟨[v], []⟩ [("script", v)]) ∧ ∀ base : Heap, K.In base → base.Ns mainGlobals mg → FnOk l.prog w K mg base CX0 10 fa fd ["script"] (spLaw K) := by
  have e := hfa.symm.trans (PySem.W.mg_of X G a34)
  cases e
  have hb : ∀ y, y ∈ bltNames → mg y = none := by
    intro y hy
    simp only [bltNames, List.mem_cons, List.not_mem_nil, or_false] at hy
    rcases hy with rfl | rfl | rfl | rfl | rfl | rfl | rfl | rfl | rfl | rfl | rfl | rfl | rfl | rfl | rfl | rfl | rfl | rfl | rfl
    · exact PySem.W.mg_none_of X G z0
    · exact PySem.W.mg_none_of X G z1
    · exact PySem.W.mg_none_of X G z2
    · exact PySem.W.mg_none_of X G z3
    · exact PySem.W.mg_none_of X G z4
    · exact PySem.W.mg_none_of X G z5
    · exact PySem.W.mg_none_of X G z6
    · exact PySem.W.mg_none_of X G z7
    · exact PySem.W.mg_none_of X G z8
    · exact PySem.W.mg_none_of X G z9
    · exact PySem.W.mg_none_of X G z10
    · exact PySem.W.mg_none_of X G z11
    · exact PySem.W.mg_none_of X G z12
    · exact PySem.W.mg_none_of X G z13
    · exact PySem.W.mg_none_of X G z14
    · exact PySem.W.mg_none_of X G z15
    · exact PySem.W.mg_none_of X G z16
    · exact PySem.W.mg_none_of X G z17
    · exact PySem.W.mg_none_of X G z18
  refine ⟨PySem.W.fnOf "law" "law" (defArgs s_law) (defBody s_law) (defScope s_law) .none kV34 dc34 pm34 an34 cd34 ct34, fun s v => .of_eq rfl, fun base _ _ => ?_⟩
  have C0 : ∃ u v, mg "REGISTERS" = some u ∧ RelV v u ∧ ∀ H, RepV K H (PV.int (4)) v := ⟨_, V.int (4), PySem.W.mg_of X G vK0, (show RelV (V.int (4)) (Value.int (4) tk0x1) from ⟨_, rfl⟩), fun H => (show RepV K H (PV.int (4)) (V.int (4)) from .int _)⟩
  have C1 : ∃ u v, mg "LONG" = some u ∧ RelV v u ∧ ∀ H, RepV K H (pvLong) v := ⟨_, V.ref ca1x64, PySem.W.mg_of X G vK1, (show RelV (V.ref ca1x64) (Value.ref ca1x64) from rfl), fun H => (show RepV K H (PV.tup [PV.tup [PV.str "put", PV.int (3)], PV.tup [PV.str "copy", PV.int (3)], PV.tup [PV.str "do", PV.int (4)], PV.tup [PV.str "load", PV.int (3)], PV.tup [PV.str "store", PV.int (3)], PV.tup [PV.str "if", PV.int (5)], PV.tup [PV.str "go", PV.int (2)], PV.tup [PV.str "end", PV.int (1)], PV.tup [PV.str "fault", PV.int (2)]]) (V.ref ca1x64) from .tup (.inr ⟨_, _, _, wK1x68, rfl, rfl, (show (9 : Nat) ≤ sizeLine by decide), (.cons (show RelV (V.ref ca1x3) (Value.ref ca1x3) from rfl) (.cons (show RelV (V.ref ca1x10) (Value.ref ca1x10) from rfl) (.cons (show RelV (V.ref ca1x17) (Value.ref ca1x17) from rfl) (.cons (show RelV (V.ref ca1x24) (Value.ref ca1x24) from rfl) (.cons (show RelV (V.ref ca1x31) (Value.ref ca1x31) from rfl) (.cons (show RelV (V.ref ca1x38) (Value.ref ca1x38) from rfl) (.cons (show RelV (V.ref ca1x45) (Value.ref ca1x45) from rfl) (.cons (show RelV (V.ref ca1x52) (Value.ref ca1x52) from rfl) (.cons (show RelV (V.ref ca1x59) (Value.ref ca1x59) from rfl) .nil)))))))))⟩) (.cons (.tup (.inr ⟨_, _, _, wK1x7, rfl, rfl, (show (2 : Nat) ≤ sizeLine by decide), (.cons (show RelV (V.str "put") (Value.str "put" tk1x1) from ⟨_, rfl⟩) (.cons (show RelV (V.int (3)) (Value.int (3) tk1x2) from ⟨_, rfl⟩) .nil))⟩) (.cons (.str _) (.cons (.int _) .nil))) (.cons (.tup (.inr ⟨_, _, _, wK1x14, rfl, rfl, (show (2 : Nat) ≤ sizeLine by decide), (.cons (show RelV (V.str "copy") (Value.str "copy" tk1x8) from ⟨_, rfl⟩) (.cons (show RelV (V.int (3)) (Value.int (3) tk1x9) from ⟨_, rfl⟩) .nil))⟩) (.cons (.str _) (.cons (.int _) .nil))) (.cons (.tup (.inr ⟨_, _, _, wK1x21, rfl, rfl, (show (2 : Nat) ≤ sizeLine by decide), (.cons (show RelV (V.str "do") (Value.str "do" tk1x15) from ⟨_, rfl⟩) (.cons (show RelV (V.int (4)) (Value.int (4) tk1x16) from ⟨_, rfl⟩) .nil))⟩) (.cons (.str _) (.cons (.int _) .nil))) (.cons (.tup (.inr ⟨_, _, _, wK1x28, rfl, rfl, (show (2 : Nat) ≤ sizeLine by decide), (.cons (show RelV (V.str "load") (Value.str "load" tk1x22) from ⟨_, rfl⟩) (.cons (show RelV (V.int (3)) (Value.int (3) tk1x23) from ⟨_, rfl⟩) .nil))⟩) (.cons (.str _) (.cons (.int _) .nil))) (.cons (.tup (.inr ⟨_, _, _, wK1x35, rfl, rfl, (show (2 : Nat) ≤ sizeLine by decide), (.cons (show RelV (V.str "store") (Value.str "store" tk1x29) from ⟨_, rfl⟩) (.cons (show RelV (V.int (3)) (Value.int (3) tk1x30) from ⟨_, rfl⟩) .nil))⟩) (.cons (.str _) (.cons (.int _) .nil))) (.cons (.tup (.inr ⟨_, _, _, wK1x42, rfl, rfl, (show (2 : Nat) ≤ sizeLine by decide), (.cons (show RelV (V.str "if") (Value.str "if" tk1x36) from ⟨_, rfl⟩) (.cons (show RelV (V.int (5)) (Value.int (5) tk1x37) from ⟨_, rfl⟩) .nil))⟩) (.cons (.str _) (.cons (.int _) .nil))) (.cons (.tup (.inr ⟨_, _, _, wK1x49, rfl, rfl, (show (2 : Nat) ≤ sizeLine by decide), (.cons (show RelV (V.str "go") (Value.str "go" tk1x43) from ⟨_, rfl⟩) (.cons (show RelV (V.int (2)) (Value.int (2) tk1x44) from ⟨_, rfl⟩) .nil))⟩) (.cons (.str _) (.cons (.int _) .nil))) (.cons (.tup (.inr ⟨_, _, _, wK1x56, rfl, rfl, (show (2 : Nat) ≤ sizeLine by decide), (.cons (show RelV (V.str "end") (Value.str "end" tk1x50) from ⟨_, rfl⟩) (.cons (show RelV (V.int (1)) (Value.int (1) tk1x51) from ⟨_, rfl⟩) .nil))⟩) (.cons (.str _) (.cons (.int _) .nil))) (.cons (.tup (.inr ⟨_, _, _, wK1x63, rfl, rfl, (show (2 : Nat) ≤ sizeLine by decide), (.cons (show RelV (V.str "fault") (Value.str "fault" tk1x57) from ⟨_, rfl⟩) (.cons (show RelV (V.int (2)) (Value.int (2) tk1x58) from ⟨_, rfl⟩) .nil))⟩) (.cons (.str _) (.cons (.int _) .nil))) .nil))))))))))⟩
  have C2 : ∃ u v, mg "PUT" = some u ∧ RelV v u ∧ ∀ H, RepV K H (PV.str "put") v := ⟨_, V.str "put", PySem.W.mg_of X G vK2, (show RelV (V.str "put") (Value.str "put" tk2x1) from ⟨_, rfl⟩), fun H => (show RepV K H (PV.str "put") (V.str "put") from .str _)⟩
  have C3 : ∃ u v, mg "MOST_PUT" = some u ∧ RelV v u ∧ ∀ H, RepV K H (PV.int (255)) v := ⟨_, V.int (255), PySem.W.mg_of X G vK3, (show RelV (V.int (255)) (Value.int (255) tk3x1) from ⟨_, rfl⟩), fun H => (show RepV K H (PV.int (255)) (V.int (255)) from .int _)⟩
  have C4 : ∃ u v, mg "DO" = some u ∧ RelV v u ∧ ∀ H, RepV K H (PV.str "do") v := ⟨_, V.str "do", PySem.W.mg_of X G vK4, (show RelV (V.str "do") (Value.str "do" tk4x1) from ⟨_, rfl⟩), fun H => (show RepV K H (PV.str "do") (V.str "do") from .str _)⟩
  have C5 : ∃ u v, mg "OPERATIONS" = some u ∧ RelV v u ∧ ∀ H, RepV K H (sts kOps) v := ⟨_, V.ref ca5x9, PySem.W.mg_of X G vK5, (show RelV (V.ref ca5x9) (Value.ref ca5x9) from rfl), fun H => (show RepV K H (PV.tup [PV.str "add", PV.str "sub", PV.str "mul", PV.str "and", PV.str "or", PV.str "xor", PV.str "left", PV.str "right"]) (V.ref ca5x9) from .tup (.inr ⟨_, _, _, wK5x13, rfl, rfl, (show (8 : Nat) ≤ sizeLine by decide), (.cons (show RelV (V.str "add") (Value.str "add" tk5x1) from ⟨_, rfl⟩) (.cons (show RelV (V.str "sub") (Value.str "sub" tk5x2) from ⟨_, rfl⟩) (.cons (show RelV (V.str "mul") (Value.str "mul" tk5x3) from ⟨_, rfl⟩) (.cons (show RelV (V.str "and") (Value.str "and" tk5x4) from ⟨_, rfl⟩) (.cons (show RelV (V.str "or") (Value.str "or" tk5x5) from ⟨_, rfl⟩) (.cons (show RelV (V.str "xor") (Value.str "xor" tk5x6) from ⟨_, rfl⟩) (.cons (show RelV (V.str "left") (Value.str "left" tk5x7) from ⟨_, rfl⟩) (.cons (show RelV (V.str "right") (Value.str "right" tk5x8) from ⟨_, rfl⟩) .nil))))))))⟩) (.cons (.str _) (.cons (.str _) (.cons (.str _) (.cons (.str _) (.cons (.str _) (.cons (.str _) (.cons (.str _) (.cons (.str _) .nil)))))))))⟩
  have C6 : ∃ u v, mg "IF" = some u ∧ RelV v u ∧ ∀ H, RepV K H (PV.str "if") v := ⟨_, V.str "if", PySem.W.mg_of X G vK6, (show RelV (V.str "if") (Value.str "if" tk6x1) from ⟨_, rfl⟩), fun H => (show RepV K H (PV.str "if") (V.str "if") from .str _)⟩
  have C7 : ∃ u v, mg "RELATIONS" = some u ∧ RelV v u ∧ ∀ H, RepV K H (sts kRel) v := ⟨_, V.ref ca7x3, PySem.W.mg_of X G vK7, (show RelV (V.ref ca7x3) (Value.ref ca7x3) from rfl), fun H => (show RepV K H (PV.tup [PV.str "same", PV.str "less"]) (V.ref ca7x3) from .tup (.inr ⟨_, _, _, wK7x7, rfl, rfl, (show (2 : Nat) ≤ sizeLine by decide), (.cons (show RelV (V.str "same") (Value.str "same" tk7x1) from ⟨_, rfl⟩) (.cons (show RelV (V.str "less") (Value.str "less" tk7x2) from ⟨_, rfl⟩) .nil))⟩) (.cons (.str _) (.cons (.str _) .nil)))⟩
  have C8 : ∃ u v, mg "GO" = some u ∧ RelV v u ∧ ∀ H, RepV K H (PV.str "go") v := ⟨_, V.str "go", PySem.W.mg_of X G vK8, (show RelV (V.str "go") (Value.str "go" tk8x1) from ⟨_, rfl⟩), fun H => (show RepV K H (PV.str "go") (V.str "go") from .str _)⟩
  have C9 : ∃ u v, mg "FAULT" = some u ∧ RelV v u ∧ ∀ H, RepV K H (PV.str "fault") v := ⟨_, V.str "fault", PySem.W.mg_of X G vK9, (show RelV (V.str "fault") (Value.str "fault" tk9x1) from ⟨_, rfl⟩), fun H => (show RepV K H (PV.str "fault") (V.str "fault") from .str _)⟩
  have C10 : ∃ u v, mg "MOST_FAULT" = some u ∧ RelV v u ∧ ∀ H, RepV K H (PV.int (9)) v := ⟨_, V.int (9), PySem.W.mg_of X G vK10, (show RelV (V.int (9)) (Value.int (9) tk10x1) from ⟨_, rfl⟩), fun H => (show RepV K H (PV.int (9)) (V.int (9)) from .int _)⟩
  have C11 : ∃ u v, mg "MOST_ORDERS" = some u ∧ RelV v u ∧ ∀ H, RepV K H (PV.int (60)) v := ⟨_, V.int (60), PySem.W.mg_of X G vK11, (show RelV (V.int (60)) (Value.int (60) tk11x1) from ⟨_, rfl⟩), fun H => (show RepV K H (PV.int (60)) (V.int (60)) from .int _)⟩
  have C12 : ∃ u v, mg "END" = some u ∧ RelV v u ∧ ∀ H, RepV K H (PV.str "end") v := ⟨_, V.str "end", PySem.W.mg_of X G vK12, (show RelV (V.str "end") (Value.str "end" tk12x1) from ⟨_, rfl⟩), fun H => (show RepV K H (PV.str "end") (V.str "end") from .str _)⟩
  have C13 : ∃ u v, mg "MOST" = some u ∧ RelV v u ∧ ∀ H, RepV K H (PV.int (200)) v := ⟨_, V.int (200), PySem.W.mg_of X G vK13, (show RelV (V.int (200)) (Value.int (200) tk13x1) from ⟨_, rfl⟩), fun H => (show RepV K H (PV.int (200)) (V.int (200)) from .int _)⟩
  have F0 := fun_mk (st := s_is_integer) l0 c0 k0
  have B0 := F0.binds (ps := ["value"]) fun _ _ _ _ _ _ us hl => match us, hl with | [_], _ => rfl
  have O0 := ok_is_integer (P := l.prog) (w := w) (base := base) (k := 0) F0 trivial trivial hb
  have H0 := fn_has O0 (PySem.W.mg_of X G a0) k0 B0 len_is_integer
  have F3 := fun_mk (st := s_is_tuple_of) l3 c3 k3
  have B3 := F3.binds (ps := ["value", "low", "high"]) fun _ _ _ _ _ _ us hl => match us, hl with | [_, _, _], _ => rfl
  have O3 := ok_is_tuple_of (P := l.prog) (w := w) (base := base) (k := 0) F3 trivial trivial hb
  have H3 := fn_has O3 (PySem.W.mg_of X G a3) k3 B3 len_is_tuple_of
  have F4 := fun_mk (st := s_is_one_of) l4 c4 k4
  have B4 := F4.binds (ps := ["value", "names"]) fun _ _ _ _ _ _ us hl => match us, hl with | [_, _], _ => rfl
  have O4 := ok_is_one_of (P := l.prog) (w := w) (base := base) (k := 0) F4 trivial trivial hb
  have H4 := fn_has O4 (PySem.W.mg_of X G a4) k4 B4 len_is_one_of
  have F10 := fun_mk (st := s_stops) l10 c10 k10
  have B10 := F10.binds (ps := ["order"]) fun _ _ _ _ _ _ us hl => match us, hl with | [_], _ => rfl
  have O10 := ok_stops (P := l.prog) (w := w) (base := base) (k := 0) F10 trivial ⟨C9, C12, trivial⟩ hb
  have H10 := fn_has O10 (PySem.W.mg_of X G a10) k10 B10 len_stops
  have F13 := fun_mk (st := s_way_in) l13 c13 k13
  have B13 := F13.binds (ps := ["nexts", "place", "other"]) fun _ _ _ _ _ _ us hl => match us, hl with | [_, _, _], _ => rfl
  have O13 := ok_way_in (P := l.prog) (w := w) (base := base) (k := 0) F13 trivial trivial hb
  have H13 := fn_has O13 (PySem.W.mg_of X G a13) k13 B13 len_way_in
  have F20 := fun_mk (st := s_law_cup) l20 c20 k20
  have B20 := F20.binds (ps := ["script"]) fun _ _ _ _ _ _ us hl => match us, hl with | [_], _ => rfl
  have O20 := ok_law_cup (P := l.prog) (w := w) (base := base) (k := 0) F20 trivial trivial hb
  have H20 := fn_has O20 (PySem.W.mg_of X G a20) k20 B20 len_law_cup
  have F21 := fun_mk (st := s_law_roll) l21 c21 k21
  have B21 := F21.binds (ps := ["cup", "many"]) fun _ _ _ _ _ _ us hl => match us, hl with | [_, _], _ => rfl
  have O21 := ok_law_roll (P := l.prog) (w := w) (base := base) (k := 0) F21 trivial trivial hb
  have H21 := fn_has O21 (PySem.W.mg_of X G a21) k21 B21 len_law_roll
  have F23 := fun_mk (st := s_law_sort) l23 c23 k23
  have B23 := F23.binds (ps := ["value"]) fun _ _ _ _ _ _ us hl => match us, hl with | [_], _ => rfl
  have O23 := ok_law_sort (P := l.prog) (w := w) (base := base) (k := 0) F23 trivial trivial hb
  have H23 := fn_has O23 (PySem.W.mg_of X G a23) k23 B23 len_law_sort
  have F29 := fun_mk (st := s_law_after) l29 c29 k29
  have B29 := F29.binds (ps := ["program", "place"]) fun _ _ _ _ _ _ us hl => match us, hl with | [_, _], _ => rfl
  have O29 := ok_law_after (P := l.prog) (w := w) (base := base) (k := 0) F29 trivial trivial hb
  have H29 := fn_has O29 (PySem.W.mg_of X G a29) k29 B29 len_law_after
  have F1 := fun_mk (st := s_is_whole) l1 c1 k1
  have B1 := F1.binds (ps := ["value", "low", "high"]) fun _ _ _ _ _ _ us hl => match us, hl with | [_, _, _], _ => rfl
  have O1 := ok_is_whole (P := l.prog) (w := w) (base := base) (k := 1) F1 ⟨⟨1, 1, by decide, H0⟩, trivial⟩ trivial hb
  have H1 := fn_has O1 (PySem.W.mg_of X G a1) k1 B1 len_is_whole
  have F11 := fun_mk (st := s_next_places) l11 c11 k11
  have B11 := F11.binds (ps := ["program", "place"]) fun _ _ _ _ _ _ us hl => match us, hl with | [_, _], _ => rfl
  have O11 := ok_next_places (P := l.prog) (w := w) (base := base) (k := 1) F11 ⟨⟨1, 1, by decide, H10⟩, trivial⟩ ⟨C8, C6, trivial⟩ hb
  have H11 := fn_has O11 (PySem.W.mg_of X G a11) k11 B11 len_next_places
  have F22 := fun_mk (st := s_law_some) l22 c22 k22
  have B22 := F22.binds (ps := ["cup", "things"]) fun _ _ _ _ _ _ us hl => match us, hl with | [_, _], _ => rfl
  have O22 := ok_law_some (P := l.prog) (w := w) (base := base) (k := 1) F22 ⟨⟨1, 2, by decide, H21⟩, trivial⟩ trivial hb
  have H22 := fn_has O22 (PySem.W.mg_of X G a22) k22 B22 len_law_some
  have F30 := fun_mk (st := s_law_rows) l30 c30 k30
  have B30 := F30.binds (ps := ["program", "most"]) fun _ _ _ _ _ _ us hl => match us, hl with | [_, _], _ => rfl
  have O30 := ok_law_rows (P := l.prog) (w := w) (base := base) (k := 1) F30 ⟨⟨1, 2, by decide, H29⟩, trivial⟩ trivial hb
  have H30 := fn_has O30 (PySem.W.mg_of X G a30) k30 B30 len_law_rows
  have F31 := fun_mk (st := s_law_from) l31 c31 k31
  have B31 := F31.binds (ps := ["program", "many"]) fun _ _ _ _ _ _ us hl => match us, hl with | [_, _], _ => rfl
  have O31 := ok_law_from (P := l.prog) (w := w) (base := base) (k := 1) F31 ⟨⟨1, 2, by decide, H29⟩, trivial⟩ trivial hb
  have H31 := fn_has O31 (PySem.W.mg_of X G a31) k31 B31 len_law_from
  have F2 := fun_mk (st := s_need_whole) l2 c2 k2
  have B2 := F2.binds (ps := ["value", "low", "high"]) fun _ _ _ _ _ _ us hl => match us, hl with | [_, _, _], _ => rfl
  have O2 := ok_need_whole (P := l.prog) (w := w) (base := base) (k := 2) F2 ⟨⟨2, 3, by decide, H1⟩, trivial⟩ trivial hb
  have H2 := fn_has O2 (PySem.W.mg_of X G a2) k2 B2 len_need_whole
  have F5 := fun_mk (st := s_is_register) l5 c5 k5
  have B5 := F5.binds (ps := ["value"]) fun _ _ _ _ _ _ us hl => match us, hl with | [_], _ => rfl
  have O5 := ok_is_register (P := l.prog) (w := w) (base := base) (k := 2) F5 ⟨⟨2, 3, by decide, H1⟩, trivial⟩ ⟨C0, trivial⟩ hb
  have H5 := fn_has O5 (PySem.W.mg_of X G a5) k5 B5 len_is_register
  have F12 := fun_mk (st := s_all_next) l12 c12 k12
  have B12 := F12.binds (ps := ["program"]) fun _ _ _ _ _ _ us hl => match us, hl with | [_], _ => rfl
  have O12 := ok_all_next (P := l.prog) (w := w) (base := base) (k := 2) F12 ⟨⟨2, 2, by decide, H11⟩, trivial⟩ trivial hb
  have H12 := fn_has O12 (PySem.W.mg_of X G a12) k12 B12 len_all_next
  have F25 := fun_mk (st := s_law_number) l25 c25 k25
  have B25 := F25.binds (ps := ["cup"]) fun _ _ _ _ _ _ us hl => match us, hl with | [_], _ => rfl
  have O25 := ok_law_number (P := l.prog) (w := w) (base := base) (k := 2) F25 ⟨⟨2, 2, by decide, H22⟩, trivial⟩ trivial hb
  have H25 := fn_has O25 (PySem.W.mg_of X G a25) k25 B25 len_law_number
  have F6 := fun_mk (st := s_are_registers) l6 c6 k6
  have B6 := F6.binds (ps := ["values"]) fun _ _ _ _ _ _ us hl => match us, hl with | [_], _ => rfl
  have O6 := ok_are_registers (P := l.prog) (w := w) (base := base) (k := 3) F6 ⟨⟨3, 1, by decide, H5⟩, trivial⟩ trivial hb
  have H6 := fn_has O6 (PySem.W.mg_of X G a6) k6 B6 len_are_registers
  have F14 := fun_mk (st := s_need_place) l14 c14 k14
  have B14 := F14.binds (ps := ["program", "place"]) fun _ _ _ _ _ _ us hl => match us, hl with | [_, _], _ => rfl
  have O14 := ok_need_place (P := l.prog) (w := w) (base := base) (k := 3) F14 ⟨⟨3, 3, by decide, H2⟩, trivial⟩ trivial hb
  have H14 := fn_has O14 (PySem.W.mg_of X G a14) k14 B14 len_need_place
  have F17 := fun_mk (st := s_rows_in) l17 c17 k17
  have B17 := F17.binds (ps := ["program", "most"]) fun _ _ _ _ _ _ us hl => match us, hl with | [_, _], _ => rfl
  have O17 := ok_rows_in (P := l.prog) (w := w) (base := base) (k := 3) F17 ⟨⟨3, 1, by decide, H12⟩, trivial⟩ trivial hb
  have H17 := fn_has O17 (PySem.W.mg_of X G a17) k17 B17 len_rows_in
  have F26 := fun_mk (st := s_law_pieces) l26 c26 k26
  have B26 := F26.binds (ps := ["cup", "place"]) fun _ _ _ _ _ _ us hl => match us, hl with | [_, _], _ => rfl
  have O26 := ok_law_pieces (P := l.prog) (w := w) (base := base) (k := 3) F26 ⟨⟨1, 2, by decide, H21⟩, ⟨2, 2, by decide, H22⟩, ⟨3, 1, by decide, H25⟩, trivial⟩ trivial hb
  have H26 := fn_has O26 (PySem.W.mg_of X G a26) k26 B26 len_law_pieces
  have F27 := fun_mk (st := s_law_order) l27 c27 k27
  have B27 := F27.binds (ps := ["cup", "place", "many"]) fun _ _ _ _ _ _ us hl => match us, hl with | [_, _, _], _ => rfl
  have O27 := ok_law_order (P := l.prog) (w := w) (base := base) (k := 3) F27 ⟨⟨1, 2, by decide, H21⟩, ⟨3, 1, by decide, H25⟩, ⟨2, 2, by decide, H22⟩, trivial⟩ trivial hb
  have H27 := fn_has O27 (PySem.W.mg_of X G a27) k27 B27 len_law_order
  have F7 := fun_mk (st := s_fits_order) l7 c7 k7
  have B7 := F7.binds (ps := ["many", "value"]) fun _ _ _ _ _ _ us hl => match us, hl with | [_, _], _ => rfl
  have O7 := ok_fits_order (P := l.prog) (w := w) (base := base) (k := 4) F7 ⟨⟨1, 3, by decide, H3⟩, ⟨2, 3, by decide, H1⟩, ⟨3, 1, by decide, H5⟩, ⟨4, 1, by decide, H6⟩, ⟨1, 2, by decide, H4⟩, trivial⟩ ⟨C1, C2, C3, C4, C5, C6, C7, C8, C9, C10, trivial⟩ hb
  have H7 := fn_has O7 (PySem.W.mg_of X G a7) k7 B7 len_fits_order
  have F28 := fun_mk (st := s_law_program) l28 c28 k28
  have B28 := F28.binds (ps := ["cup", "most"]) fun _ _ _ _ _ _ us hl => match us, hl with | [_, _], _ => rfl
  have O28 := ok_law_program (P := l.prog) (w := w) (base := base) (k := 4) F28 ⟨⟨1, 2, by decide, H21⟩, ⟨4, 2, by decide, H26⟩, ⟨4, 3, by decide, H27⟩, ⟨2, 2, by decide, H22⟩, trivial⟩ trivial hb
  have H28 := fn_has O28 (PySem.W.mg_of X G a28) k28 B28 len_law_program
  have F8 := fun_mk (st := s_fits_program) l8 c8 k8
  have B8 := F8.binds (ps := ["value"]) fun _ _ _ _ _ _ us hl => match us, hl with | [_], _ => rfl
  have O8 := ok_fits_program (P := l.prog) (w := w) (base := base) (k := 5) F8 ⟨⟨5, 2, by decide, H7⟩, ⟨1, 3, by decide, H3⟩, trivial⟩ ⟨C11, C9, C12, C8, trivial⟩ hb
  have H8 := fn_has O8 (PySem.W.mg_of X G a8) k8 B8 len_fits_program
  have F9 := fun_mk (st := s_need_program) l9 c9 k9
  have B9 := F9.binds (ps := ["value"]) fun _ _ _ _ _ _ us hl => match us, hl with | [_], _ => rfl
  have O9 := ok_need_program (P := l.prog) (w := w) (base := base) (k := 6) F9 ⟨⟨6, 1, by decide, H8⟩, trivial⟩ trivial hb
  have H9 := fn_has O9 (PySem.W.mg_of X G a9) k9 B9 len_need_program
  have F15 := fun_mk (st := s_leads_on) l15 c15 k15
  have B15 := F15.binds (ps := ["program", "place"]) fun _ _ _ _ _ _ us hl => match us, hl with | [_, _], _ => rfl
  have O15 := ok_leads_on (P := l.prog) (w := w) (base := base) (k := 7) F15 ⟨⟨7, 1, by decide, H9⟩, ⟨4, 2, by decide, H14⟩, ⟨2, 2, by decide, H11⟩, trivial⟩ trivial hb
  have H15 := fn_has O15 (PySem.W.mg_of X G a15) k15 B15 len_leads_on
  have F16 := fun_mk (st := s_shortest_way) l16 c16 k16
  have B16 := F16.binds (ps := ["program", "place", "other"]) fun _ _ _ _ _ _ us hl => match us, hl with | [_, _, _], _ => rfl
  have O16 := ok_shortest_way (P := l.prog) (w := w) (base := base) (k := 7) F16 ⟨⟨7, 1, by decide, H9⟩, ⟨4, 2, by decide, H14⟩, ⟨1, 3, by decide, H13⟩, ⟨3, 1, by decide, H12⟩, trivial⟩ trivial hb
  have H16 := fn_has O16 (PySem.W.mg_of X G a16) k16 B16 len_shortest_way
  have F18 := fun_mk (st := s_flow_rows) l18 c18 k18
  have B18 := F18.binds (ps := ["program", "most"]) fun _ _ _ _ _ _ us hl => match us, hl with | [_, _], _ => rfl
  have O18 := ok_flow_rows (P := l.prog) (w := w) (base := base) (k := 7) F18 ⟨⟨7, 1, by decide, H9⟩, ⟨3, 3, by decide, H2⟩, ⟨4, 2, by decide, H17⟩, trivial⟩ ⟨C13, trivial⟩ hb
  have H18 := fn_has O18 (PySem.W.mg_of X G a18) k18 B18 len_flow_rows
  have F19 := fun_mk (st := s_steps_to) l19 c19 k19
  have B19 := F19.binds (ps := ["program", "place", "most"]) fun _ _ _ _ _ _ us hl => match us, hl with | [_, _, _], _ => rfl
  have O19 := ok_steps_to (P := l.prog) (w := w) (base := base) (k := 7) F19 ⟨⟨7, 1, by decide, H9⟩, ⟨4, 2, by decide, H14⟩, ⟨3, 3, by decide, H2⟩, ⟨4, 2, by decide, H17⟩, trivial⟩ ⟨C13, trivial⟩ hb
  have H19 := fn_has O19 (PySem.W.mg_of X G a19) k19 B19 len_steps_to
  have F24 := fun_mk (st := s_law_like) l24 c24 k24
  have B24 := F24.binds (ps := ["one", "other"]) fun _ _ _ _ _ _ us hl => match us, hl with | [_, _], _ => rfl
  have O24 := ok_law_like (P := l.prog) (w := w) (base := base) (k := 2) F24 (PySem.W.mg_of X G a24) k24 B24 hb ⟨1, 1, by decide, H23⟩ 5
  have H24 := fn_has O24 (PySem.W.mg_of X G a24) k24 B24 (len_law_like 5)
  have F32 := fun_mk (st := s_law_right) l32 c32 k32
  have B32 := F32.binds (ps := ["cup", "program"]) fun _ _ _ _ _ _ us hl => match us, hl with | [_, _], _ => rfl
  have O32 := ok_law_right (P := l.prog) (w := w) (base := base) (k := 8) F32 ⟨⟨2, 2, by decide, H30⟩, ⟨8, 2, by decide, H24⟩, ⟨8, 2, by decide, H18⟩, ⟨2, 2, by decide, H31⟩, ⟨2, 2, by decide, H22⟩, ⟨1, 2, by decide, H21⟩, ⟨1, 2, by decide, H29⟩, ⟨8, 2, by decide, H15⟩, ⟨8, 3, by decide, H19⟩, ⟨8, 3, by decide, H16⟩, trivial⟩ trivial hb
  have H32 := fn_has O32 (PySem.W.mg_of X G a32) k32 B32 len_law_right
  have F33 := fun_mk (st := s_law_written_right) l33 c33 k33
  have B33 := F33.binds (ps := []) fun _ _ _ _ _ _ us hl => match us, hl with | [], _ => rfl
  have O33 := ok_law_written_right (P := l.prog) (w := w) (base := base) (k := 8) F33 ⟨⟨8, 3, by decide, H19⟩, ⟨8, 2, by decide, H18⟩, ⟨8, 2, by decide, H24⟩, trivial⟩ trivial hb
  have H33 := fn_has O33 (PySem.W.mg_of X G a33) k33 B33 len_law_written_right
  have F34 := fun_mk (st := s_law) l34 c34 k34
  have O34 := ok_law (P := l.prog) (w := w) (base := base) (k := 9) F34 ⟨⟨9, 0, by decide, H33⟩, ⟨1, 1, by decide, H20⟩, ⟨9, 2, by decide, H32⟩, ⟨5, 2, by decide, H28⟩, trivial⟩ trivial hb
  exact O34.imp law_imp
theorem walk {l : PySem.W.OpenLaw} {q : Program} {loose : List Str} {XP : (Str → Option Value) → Heap → Prop} {YP : World → Heap → Prop} {d : DefRec} {K : Params → PySem.W.Frag} (hn : l.most = some 63) (hdf : d.params.defaults = [])
    (hY : ∀ (w : World) (h : Heap), YP w h → (K w.params).In h)
    (F : ∀ (w : World) (mg : Str → Option Value) (fa : Addr) (h : Heap), (K w.params).In h → h.Ns mainGlobals mg → mg d.name = some (.ref fa) →
      ∃ fd : FuncData, (∀ (s : Shared) (u : Value), BindsTo s fd ⟨[u], []⟩ [("script", u)]) ∧ ∀ base : Heap, (K w.params).In base → base.Ns mainGlobals mg → FnOk l.prog w (K w.params) mg base CX0 10 fa fd ["script"] (spLaw (K w.params))) :
    PySem.W.WalkO q loose XP YP l.row.toRowW d [] (fun f vs => PySem.call f vs) :=
  L2.walk_of (n := 63) (k := 10) (x := "script") (CX := fun _ => CX0) (sp := fun w => spLaw (K w.params)) hn (by decide) hdf ⟨rfl, by decide, by decide⟩ hY F (fun _ _ a ns hl _ hS => ⟨a, ns, rfl, hS, hl, fun _ => rfl⟩) fun _ _ _ _ _ z => z
end PL.Cm

open PySem PySem.W PyProof.Rows in
set_option maxRecDepth 100000 in
set_option maxHeartbeats 0 in
theorem PySem.Challenge.cw_allrunstold_k14_whole_flows_to_two_hundr_holds : PySem.Challenge.rw_allrunstold_k14_whole_flows_to_two_hundr.Holds := by
  w_on; o_law; k_head; (case hw => w_witness2)
  k_fill
  refine PL.Cm.walk (l := PySem.Challenge.rw_allrunstold_k14_whole_flows_to_two_hundr) rfl rfl (fun w h Y => PySem.W.kIn_of Y) ?F
  case F =>
    intro w mg fa h KX G hmg
    refine' PL.Cm.all_mk KX G hmg ?a0 ?l0 ?c0 ?k0 ?a1 ?l1 ?c1 ?k1 ?a2 ?l2 ?c2 ?k2 ?a3 ?l3 ?c3 ?k3 ?a4 ?l4 ?c4 ?k4 ?a5 ?l5 ?c5 ?k5 ?a6 ?l6 ?c6 ?k6 ?a7 ?l7 ?c7 ?k7 ?a8 ?l8 ?c8 ?k8 ?a9 ?l9 ?c9 ?k9 ?a10 ?l10 ?c10 ?k10 ?a11 ?l11 ?c11 ?k11 ?a12 ?l12 ?c12 ?k12 ?a13 ?l13 ?c13 ?k13 ?a14 ?l14 ?c14 ?k14 ?a15 ?l15 ?c15 ?k15 ?a16 ?l16 ?c16 ?k16 ?a17 ?l17 ?c17 ?k17 ?a18 ?l18 ?c18 ?k18 ?a19 ?l19 ?c19 ?k19 ?a20 ?l20 ?c20 ?k20 ?a21 ?l21 ?c21 ?k21 ?a22 ?l22 ?c22 ?k22 ?a23 ?l23 ?c23 ?k23 ?a24 ?l24 ?c24 ?k24 ?a25 ?l25 ?c25 ?k25 ?a26 ?l26 ?c26 ?k26 ?a27 ?l27 ?c27 ?k27 ?a28 ?l28 ?c28 ?k28 ?a29 ?l29 ?c29 ?k29 ?a30 ?l30 ?c30 ?k30 ?a31 ?l31 ?c31 ?k31 ?a32 ?l32 ?c32 ?k32 ?a33 ?l33 ?c33 ?k33 ?a34 ?l34 ?c34 ?k34 ?vK0 ?vK1 ?wK1x7 ?wK1x14 ?wK1x21 ?wK1x28 ?wK1x35 ?wK1x42 ?wK1x49 ?wK1x56 ?wK1x63 ?wK1x68 ?vK2 ?vK3 ?vK4 ?vK5 ?wK5x13 ?vK6 ?vK7 ?wK7x7 ?vK8 ?vK9 ?vK10 ?vK11 ?vK12 ?vK13 ?z0 ?z1 ?z2 ?z3 ?z4 ?z5 ?z6 ?z7 ?z8 ?z9 ?z10 ?z11 ?z12 ?z13 ?z14 ?z15 ?z16 ?z17 ?z18
    (case a0 => k_is)
    (case l0 => k_is)
    (case c0 => k_is)
    (case k0 => k_is)
    (case a1 => k_is)
    (case l1 => k_is)
    (case c1 => k_is)
    (case k1 => k_is)
    (case a2 => k_is)
    (case l2 => k_is)
    (case c2 => k_is)
    (case k2 => k_is)
    (case a3 => k_is)
    (case l3 => k_is)
    (case c3 => k_is)
    (case k3 => k_is)
    (case a4 => k_is)
    (case l4 => k_is)
    (case c4 => k_is)
    (case k4 => k_is)
    (case a5 => k_is)
    (case l5 => k_is)
    (case c5 => k_is)
    (case k5 => k_is)
    (case a6 => k_is)
    (case l6 => k_is)
    (case c6 => k_is)
    (case k6 => k_is)
    (case a7 => k_is)
    (case l7 => k_is)
    (case c7 => k_is)
    (case k7 => k_is)
    (case a8 => k_is)
    (case l8 => k_is)
    (case c8 => k_is)
    (case k8 => k_is)
    (case a9 => k_is)
    (case l9 => k_is)
    (case c9 => k_is)
    (case k9 => k_is)
    (case a10 => k_is)
    (case l10 => k_is)
    (case c10 => k_is)
    (case k10 => k_is)
    (case a11 => k_is)
    (case l11 => k_is)
    (case c11 => k_is)
    (case k11 => k_is)
    (case a12 => k_is)
    (case l12 => k_is)
    (case c12 => k_is)
    (case k12 => k_is)
    (case a13 => k_is)
    (case l13 => k_is)
    (case c13 => k_is)
    (case k13 => k_is)
    (case a14 => k_is)
    (case l14 => k_is)
    (case c14 => k_is)
    (case k14 => k_is)
    (case a15 => k_is)
    (case l15 => k_is)
    (case c15 => k_is)
    (case k15 => k_is)
    (case a16 => k_is)
    (case l16 => k_is)
    (case c16 => k_is)
    (case k16 => k_is)
    (case a17 => k_is)
    (case l17 => k_is)
    (case c17 => k_is)
    (case k17 => k_is)
    (case a18 => k_is)
    (case l18 => k_is)
    (case c18 => k_is)
    (case k18 => k_is)
    (case a19 => k_is)
    (case l19 => k_is)
    (case c19 => k_is)
    (case k19 => k_is)
    (case a20 => k_is)
    (case l20 => k_is)
    (case c20 => k_is)
    (case k20 => k_is)
    (case a21 => k_is)
    (case l21 => k_is)
    (case c21 => k_is)
    (case k21 => k_is)
    (case a22 => k_is)
    (case l22 => k_is)
    (case c22 => k_is)
    (case k22 => k_is)
    (case a23 => k_is)
    (case l23 => k_is)
    (case c23 => k_is)
    (case k23 => k_is)
    (case a24 => k_is)
    (case l24 => k_is)
    (case c24 => k_is)
    (case k24 => k_is)
    (case a25 => k_is)
    (case l25 => k_is)
    (case c25 => k_is)
    (case k25 => k_is)
    (case a26 => k_is)
    (case l26 => k_is)
    (case c26 => k_is)
    (case k26 => k_is)
    (case a27 => k_is)
    (case l27 => k_is)
    (case c27 => k_is)
    (case k27 => k_is)
    (case a28 => k_is)
    (case l28 => k_is)
    (case c28 => k_is)
    (case k28 => k_is)
    (case a29 => k_is)
    (case l29 => k_is)
    (case c29 => k_is)
    (case k29 => k_is)
    (case a30 => k_is)
    (case l30 => k_is)
    (case c30 => k_is)
    (case k30 => k_is)
    (case a31 => k_is)
    (case l31 => k_is)
    (case c31 => k_is)
    (case k31 => k_is)
    (case a32 => k_is)
    (case l32 => k_is)
    (case c32 => k_is)
    (case k32 => k_is)
    (case a33 => k_is)
    (case l33 => k_is)
    (case c33 => k_is)
    (case k33 => k_is)
    (case a34 => k_is)
    (case l34 => k_is)
    (case c34 => k_is)
    (case k34 => k_is)
    (case vK0 => k_is)
    (case vK1 => k_is)
    (case wK1x68 => k_is)
    (case wK1x63 => k_is)
    (case wK1x56 => k_is)
    (case wK1x49 => k_is)
    (case wK1x42 => k_is)
    (case wK1x35 => k_is)
    (case wK1x28 => k_is)
    (case wK1x21 => k_is)
    (case wK1x14 => k_is)
    (case wK1x7 => k_is)
    (case vK2 => k_is)
    (case vK3 => k_is)
    (case vK4 => k_is)
    (case vK5 => k_is)
    (case wK5x13 => k_is)
    (case vK6 => k_is)
    (case vK7 => k_is)
    (case wK7x7 => k_is)
    (case vK8 => k_is)
    (case vK9 => k_is)
    (case vK10 => k_is)
    (case vK11 => k_is)
    (case vK12 => k_is)
    (case vK13 => k_is)
    (case z0 => k_is)
    (case z1 => k_is)
    (case z2 => k_is)
    (case z3 => k_is)
    (case z4 => k_is)
    (case z5 => k_is)
    (case z6 => k_is)
    (case z7 => k_is)
    (case z8 => k_is)
    (case z9 => k_is)
    (case z10 => k_is)
    (case z11 => k_is)
    (case z12 => k_is)
    (case z13 => k_is)
    (case z14 => k_is)
    (case z15 => k_is)
    (case z16 => k_is)
    (case z17 => k_is)
    (case z18 => k_is)
