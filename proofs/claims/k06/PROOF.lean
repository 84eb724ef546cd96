import PyProof.Rows.All
import Wide.All
import OpenK.AllK
import Wide.FinOn
import HandS.ForMost
import HandS.ForExc
import HandS.Wide
import KE.KDictKeyed
import KE.DataEq
import HandS.Conv
import HandS.IsInst
import HandS.TupAny
import HandS.TupMul
import PyProof.Rows.SeqMore
import PyProof.StrOps2
import HandS.Style
import HandS.WordsExc
import HandS.CallSlots
import HandS.Codes
import HandS.Text
import HandS.Comp
import HandS.Iter
import KE.GoesEnum
import HandS.Property
import HandS.More
import HandS.Defaults
import HandS.TryMany
import HandS.ExcInit
import HandS.ExcIs
import HandS.ExcField
import HandS.Small
import HandS.OwnEq
import HandS.Strs
import HandS.SetFor
import KE.KSort
import HandS.Ends
import KE.SortData
import HandS.Star
import HandS.Zip
import KE.KDictDisplayH
import PySem.Challenge.RW_sureprize_k06_whole_chances
set_option Elab.async false
set_option linter.all false
set_option maxRecDepth 100000
set_option maxHeartbeats 4000000
section
/-! SZ, part A: data as a whole (D), the mutable objects (MO), how values and heap bear them. -/
namespace SZ
open PySem PySem.Spec PyProof.Rows L2

/-! ### data -/
inductive D where
  | non | bl (b : Bool) | int (i : Int) | str (x : Str)
  | tup (l : List D) | lst (l : List D)
  | dic (t : Bool) (ks vs : List D)
  | obj (c : Nat) (vs : List D)
  | fn (f : Nat)
  | ref (n : Nat)
  | exn (c : Nat) (vs : List D)
  | clo (j : Nat) (vs : List D)
instance : Inhabited D := ⟨.non⟩

/-- a mutable object. dic: t tells whether its keys are tuples -/
inductive MO where
  | lst (l : List D)
  | dic (t : Bool) (ks vs : List D)
  | ins (c : Nat) (vs : List D)
abbrev MH := List (Option MO)

/-- what is the same through the law: the module's facts; classes by number (address, fields in order); defs by number; the exception in hand -/
structure Glo where
  P : Program
  w : World
  K : PySem.W.Frag
  mg : Str → Option Value
  cl : Nat → Option (Addr × List Str)
  fn : Nat → Option Addr
  xa : Option (Addr × Value × Option Addr)

/-- a list that never changes -/
def FzL (K : PySem.W.Frag) (H : Hp) (a : Addr) (xs : List V) : Prop :=
  (∃ o, H a = some (.frz o (.lst xs))) ∨
    ∃ (o : Obj) (its : Array Value) (n : Nat), K.lookup a = some o ∧ o.cls = .type "list" ∧ o.dict = none ∧ o.data = .seq its n ∧ its.size ≤ sizeLine ∧ Vals xs its.toList
theorem FzL.seq {K : PySem.W.Frag} {H : Hp} {a : Addr} {xs : List V} (h : FzL K H a xs) : SqL K H a xs := by
  rcases h with ⟨o, h⟩ | h
  · exact .inl (.inr ⟨o, h⟩)
  · exact .inr h

mutual
/-- a dict's key as the library's nested key -/
def nk : D → Option NestedKey
  | .bl b => some (.num (if b then 1 else 0))
  | .int i => some (.num i)
  | .str x => some (.text x)
  | .non => some .none
  | .tup l => (nks l).map .tup
  | .lst _ | .dic _ _ _ | .obj _ _ | .fn _ | .ref _ | .exn _ _ | .clo _ _ => none
def nks : List D → Option (List NestedKey)
  | [] => some []
  | d :: l => match nk d, nks l with
    | some k, some ks => some (k :: ks)
    | _, _ => none
end
mutual
/-- every object that it names is below n -/
def D.bel (n : Nat) : D → Bool
  | .tup l | .lst l | .obj _ l | .exn _ l | .clo _ l => bels n l
  | .dic _ ks vs => bels n ks && bels n vs
  | .ref m => decide (m < n)
  | .non | .bl _ | .int _ | .str _ | .fn _ => true
def bels (n : Nat) : List D → Bool
  | [] => true
  | d :: l => d.bel n && bels n l
end
mutual
def D.beq : D → D → Bool
  | .non, .non => true
  | .bl a, .bl b => a == b
  | .int a, .int b => a == b
  | .str a, .str b => a == b
  | .tup a, .tup b => beqs a b
  | .lst a, .lst b => beqs a b
  | .dic t a b, .dic u c d => t == u && beqs a c && beqs b d
  | .obj a b, .obj c d => a == c && beqs b d
  | .fn a, .fn b => a == b
  | .ref a, .ref b => a == b
  | .exn a b, .exn c d => a == c && beqs b d
  | .clo a b, .clo c d => a == c && beqs b d
  | _, _ => false
def beqs : List D → List D → Bool
  | [], [] => true
  | a :: l, b :: r => a.beq b && beqs l r
  | _, _ => false
end
mutual
theorem beq_eq : ∀ a b : D, a.beq b = true → a = b
  | .non, b, h => by cases b <;> simp_all [D.beq]
  | .bl a, b, h => by cases b <;> simp_all [D.beq]
  | .int a, b, h => by cases b <;> simp_all [D.beq]
  | .str a, b, h => by cases b <;> simp_all [D.beq]
  | .tup a, b, h => by
    cases b <;> simp only [D.beq, Bool.false_eq_true] at h
    rw [beqs_eq _ _ h]
  | .lst a, b, h => by
    cases b <;> simp only [D.beq, Bool.false_eq_true] at h
    rw [beqs_eq _ _ h]
  | .dic t a a', b, h => by
    cases b <;> simp only [D.beq, Bool.false_eq_true, Bool.and_eq_true, beq_iff_eq] at h
    rw [h.1.1, beqs_eq _ _ h.1.2, beqs_eq _ _ h.2]
  | .obj a a', b, h => by
    cases b <;> simp only [D.beq, Bool.false_eq_true, Bool.and_eq_true, beq_iff_eq] at h
    rw [h.1, beqs_eq _ _ h.2]
  | .fn a, b, h => by cases b <;> simp_all [D.beq]
  | .ref a, b, h => by cases b <;> simp_all [D.beq]
  | .exn a a', b, h => by
    cases b <;> simp only [D.beq, Bool.false_eq_true, Bool.and_eq_true, beq_iff_eq] at h
    rw [h.1, beqs_eq _ _ h.2]
  | .clo a a', b, h => by
    cases b <;> simp only [D.beq, Bool.false_eq_true, Bool.and_eq_true, beq_iff_eq] at h
    rw [h.1, beqs_eq _ _ h.2]
theorem beqs_eq : ∀ a b : List D, beqs a b = true → a = b
  | [], b, h => by cases b <;> simp_all [beqs]
  | x :: l, b, h => by
    cases b with
    | nil => simp [beqs] at h
    | cons y r =>
      simp only [beqs, Bool.and_eq_true] at h
      rw [beq_eq _ _ h.1, beqs_eq _ _ h.2]
end
mutual
theorem beq_refl : ∀ a : D, a.beq a = true
  | .non => rfl
  | .bl a => by simp [D.beq]
  | .int a => by simp [D.beq]
  | .str a => by simp [D.beq]
  | .tup a => by simp only [D.beq]; exact beqs_refl a
  | .lst a => by simp only [D.beq]; exact beqs_refl a
  | .dic t a b => by simp only [D.beq]; rw [beqs_refl a, beqs_refl b]; simp
  | .obj a b => by simp only [D.beq]; rw [beqs_refl b]; simp
  | .fn a => by simp [D.beq]
  | .ref a => by simp [D.beq]
  | .exn a b => by simp only [D.beq]; rw [beqs_refl b]; simp
  | .clo a b => by simp only [D.beq]; rw [beqs_refl b]; simp
theorem beqs_refl : ∀ a : List D, beqs a a = true
  | [] => rfl
  | x :: l => by simp only [beqs]; rw [beq_refl x, beqs_refl l]; rfl
end
def MO.beq : MO → MO → Bool
  | .lst a, .lst b => beqs a b
  | .dic t a b, .dic u c d => t == u && beqs a c && beqs b d
  | .ins a b, .ins c d => a == c && beqs b d
  | _, _ => false
theorem MO.beq_eq {a b : MO} (h : a.beq b = true) : a = b := by
  cases a <;> cases b <;> simp only [MO.beq, Bool.false_eq_true, Bool.and_eq_true, beq_iff_eq] at h
  · rw [beqs_eq _ _ h]
  · rw [h.1.1, beqs_eq _ _ h.1.2, beqs_eq _ _ h.2]
  · rw [h.1, beqs_eq _ _ h.2]
theorem MO.beq_refl (a : MO) : a.beq a = true := by
  cases a <;> simp [MO.beq, beqs_refl]
def MO.bel (n : Nat) : MO → Bool
  | .lst l => bels n l
  | .dic _ ks vs => bels n ks && bels n vs
  | .ins _ l => bels n l

/-! ### what a value bears -/
/-- a dict with nested keys, by its entries -/
def DNp (G : Glo) (a : Addr) (xs : List (NestedKey × Addr × Value)) (h : Heap) : Prop :=
  (a == sysModules) = false ∧ xs.length ≤ sizeLine ∧ (∀ x ∈ xs, x.1.depth ≤ 8) ∧ ∃ o es ep, h.get? a = some o ∧ o.ExactDict ∧ o.data = .dict es ep ∧ es.toList = xs.map (entryOfKey (nestedKind G.P G.w)) ∧ (xs.map (·.1)).Nodup
def DN (G : Glo) (a : Addr) (xs : List (NestedKey × Addr × Value)) : HO := .ext (DNp G a xs)
mutual
def DV (G : Glo) (H : Hp) (ι : List Addr) : D → V → Prop
  | .non, v => v = .non
  | .bl b, v => v = .bl b
  | .int i, v => v = .int i
  | .str x, v => v = .str x
  | .tup l, v => ∃ a vs, v = .ref a ∧ SqT G.K H a vs ∧ DVs G H ι l vs
  | .lst l, v => ∃ a vs, v = .ref a ∧ FzL G.K H a vs ∧ DVs G H ι l vs
  | .dic false ks vs, v => ∃ a o, v = .ref a ∧ ∃ kvs, H a = some (.frz o (.dK kvs)) ∧ DVs G H ι ks (kvs.map fun p => kV p.1) ∧ DVs G H ι vs (kvs.map (·.2))
  | .dic true ks vs, v => ∃ a o, v = .ref a ∧ ∃ xs ws, H a = some (.frz o (DN G a xs)) ∧ ks.map nk = xs.map (fun x => some x.1) ∧ DVs G H ι ks (xs.map fun x => .ref x.2.1) ∧ Vals ws (xs.map (·.2.2)) ∧ DVs G H ι vs ws
  | .obj c ds, v => ∃ a o C dx fs ns, v = .ref a ∧ H a = some (.frz o (.ins C dx fs)) ∧ G.cl c = some (C, ns) ∧ fs.map (·.1) = ns ∧ DVs G H ι ds (fs.map (·.2))
  | .fn f, v => ∃ a, G.fn f = some a ∧ v = .ref a
  | .ref n, v => ∃ a, ι[n]? = some a ∧ v = .ref a
  | .exn c ds, v => ∃ a cls dd C ns, G.xa = some (a, cls, dd) ∧ v = .ref a ∧ G.cl c = some (C, ns) ∧ cls = .ref C ∧
      ((ns = [] ∧ ds = [] ∧ dd = none) ∨ ∃ d o fs, dd = some d ∧ H d = some (.frz o (.xd fs)) ∧ fs.map (·.1) = ns ∧ DVs G H ι ds (fs.map (·.2)))
  | .clo _ _, _ => False
def DVs (G : Glo) (H : Hp) (ι : List Addr) : List D → List V → Prop
  | [], vs => vs = []
  | d :: l, vs => ∃ v r, vs = v :: r ∧ DV G H ι d v ∧ DVs G H ι l r
end

/-- what never changes is kept -/
structure Ext (H H' : Hp) : Prop where
  tups : ∀ a xs, H a = some (.tup xs) → H' a = some (.tup xs)
  frzs : ∀ a o u, H a = some (.frz o u) → H' a = some (.frz o u)
theorem Ext.refl {H : Hp} : Ext H H := ⟨fun _ _ h => h, fun _ _ _ h => h⟩
theorem Ext.trans {H H1 H2 : Hp} (a : Ext H H1) (b : Ext H1 H2) : Ext H H2 := ⟨fun c xs h => b.tups c xs (a.tups c xs h), fun c o u h => b.frzs c o u (a.frzs c o u h)⟩
theorem Ext.same {H H' : Hp} (h : Same H H') : Ext H H' := ⟨fun a xs e => h a _ e, fun a o u e => h a _ e⟩
theorem Ext.upd_free {H : Hp} {p : Addr} {o : HO} (h : H p = none) : Ext H (upd H p o) :=
  ⟨fun a xs e => by rw [upd_ne (ne_of_none e h)]; exact e, fun a o u e => by rw [upd_ne (ne_of_none e h)]; exact e⟩
/-- an object that may change -/
def Chg : HO → Prop
  | .tup _ | .frz _ _ => False
  | _ => True
theorem Ext.upd_chg {H : Hp} {p : Addr} {u o : HO} (h : H p = some u) (c : Chg u) : Ext H (upd H p o) :=
  ⟨fun a xs e => by
    by_cases q : a = p
    · subst q; rw [h] at e; cases e; exact c.elim
    · rw [upd_ne q]; exact e,
   fun a ob w e => by
    by_cases q : a = p
    · subst q; rw [h] at e; cases e; exact c.elim
    · rw [upd_ne q]; exact e⟩
theorem Same.upd_free {H : Hp} {p : Addr} {o : HO} (h : H p = none) : Same H (upd H p o) := fun a x e => by rw [upd_ne (ne_of_none e h)]; exact e

theorem SqT.ext {K : PySem.W.Frag} {H H' : Hp} {a : Addr} {xs : List V} (x : Ext H H') (h : SqT K H a xs) : SqT K H' a xs := by
  rcases h with (h | ⟨o, h⟩) | h
  · exact .inl (.inl (x.tups _ _ h))
  · exact .inl (.inr ⟨o, x.frzs _ _ _ h⟩)
  · exact .inr h
theorem FzL.ext {K : PySem.W.Frag} {H H' : Hp} {a : Addr} {xs : List V} (x : Ext H H') (h : FzL K H a xs) : FzL K H' a xs := by
  rcases h with ⟨o, h⟩ | h
  · exact .inl ⟨o, x.frzs _ _ _ h⟩
  · exact .inr h
section
variable {G : Glo} {H H' : Hp} {ι ι' : List Addr}
theorem pre_get {ι ι' : List Addr} (p : ι <+: ι') {n : Nat} {a : Addr} (h : ι[n]? = some a) : ι'[n]? = some a := by
  obtain ⟨t, rfl⟩ := p
  rw [List.getElem?_append_left (List.getElem?_eq_some_iff.mp h).1]
  exact h
mutual
theorem DV.mono (x : Ext H H') (p : ι <+: ι') : ∀ (d : D) (v : V), DV G H ι d v → DV G H' ι' d v
  | .non, _, h | .bl _, _, h | .int _, _, h | .str _, _, h => h
  | .fn _, _, h => h
  | .tup l, _, ⟨a, vs, e, s, r⟩ => ⟨a, vs, e, SqT.ext x s, DVs.mono x p l vs r⟩
  | .lst l, _, ⟨a, vs, e, s, r⟩ => ⟨a, vs, e, FzL.ext x s, DVs.mono x p l vs r⟩
  | .dic false ks vs, _, ⟨a, o, e, kvs, s, r1, r2⟩ => ⟨a, o, e, kvs, x.frzs _ _ _ s, DVs.mono x p ks _ r1, DVs.mono x p vs _ r2⟩
  | .dic true ks vs, _, ⟨a, o, e, xs, ws, s, q, r1, r2, r3⟩ => ⟨a, o, e, xs, ws, x.frzs _ _ _ s, q, DVs.mono x p ks _ r1, r2, DVs.mono x p vs _ r3⟩
  | .obj c ds, _, ⟨a, o, C, dx, fs, ns, e, s, q1, q2, r⟩ => ⟨a, o, C, dx, fs, ns, e, x.frzs _ _ _ s, q1, q2, DVs.mono x p ds _ r⟩
  | .ref n, _, ⟨a, e1, e2⟩ => ⟨a, pre_get p e1, e2⟩
  | .clo _ _, _, h => h.elim
  | .exn c ds, _, ⟨a, cls, dd, C, ns, e1, e2, e3, e4, .inl q⟩ => ⟨a, cls, dd, C, ns, e1, e2, e3, e4, .inl q⟩
  | .exn c ds, _, ⟨a, cls, dd, C, ns, e1, e2, e3, e4, .inr ⟨d, o, fs, q1, q2, q3, r⟩⟩ => ⟨a, cls, dd, C, ns, e1, e2, e3, e4, .inr ⟨d, o, fs, q1, x.frzs _ _ _ q2, q3, DVs.mono x p ds _ r⟩⟩
theorem DVs.mono (x : Ext H H') (p : ι <+: ι') : ∀ (l : List D) (vs : List V), DVs G H ι l vs → DVs G H' ι' l vs
  | [], _, h => h
  | d :: l, _, ⟨v, r, e, h, t⟩ => ⟨v, r, e, DV.mono x p d v h, DVs.mono x p l r t⟩
end
end
section
variable {G : Glo} {H H' : Hp} {ι ι' : List Addr}
theorem DVs.nil_iff {vs : List V} : DVs G H ι [] vs ↔ vs = [] := Iff.rfl
theorem DVs.cons {d : D} {l : List D} {v : V} {vs : List V} (h : DV G H ι d v) (t : DVs G H ι l vs) : DVs G H ι (d :: l) (v :: vs) := ⟨v, vs, rfl, h, t⟩
theorem DVs.length : ∀ {l : List D} {vs : List V}, DVs G H ι l vs → l.length = vs.length
  | [], _, rfl => rfl
  | d :: l, _, ⟨v, r, rfl, h, t⟩ => by rw [List.length_cons, List.length_cons, DVs.length t]
theorem DVs.get : ∀ {l : List D} {vs : List V} {i : Nat} {d : D}, DVs G H ι l vs → l[i]? = some d → ∃ v, vs[i]? = some v ∧ DV G H ι d v
  | [], _, i, _, _, e => by simp at e
  | d :: l, _, 0, _, ⟨v, r, rfl, h, t⟩, e => by
    simp at e; subst e
    exact ⟨v, rfl, h⟩
  | d :: l, _, i + 1, _, ⟨v, r, rfl, h, t⟩, e => by
    obtain ⟨v', h1, h2⟩ := DVs.get (i := i) t (by simpa using e)
    exact ⟨v', by simpa using h1, h2⟩
theorem DVs.append : ∀ {l m : List D} {vs ws : List V}, DVs G H ι l vs → DVs G H ι m ws → DVs G H ι (l ++ m) (vs ++ ws)
  | [], _, _, _, rfl, s => s
  | d :: l, _, _, _, ⟨v, r, rfl, h, t⟩, s => ⟨v, r ++ _, rfl, h, DVs.append t s⟩
theorem DVs.take : ∀ (n : Nat) {l : List D} {vs : List V}, DVs G H ι l vs → DVs G H ι (l.take n) (vs.take n)
  | 0, _, _, _ => by simp [DVs]
  | n + 1, [], _, rfl => by simp [DVs]
  | n + 1, d :: l, _, ⟨v, r, rfl, h, t⟩ => ⟨v, r.take n, rfl, h, DVs.take n t⟩
theorem DVs.drop : ∀ (n : Nat) {l : List D} {vs : List V}, DVs G H ι l vs → DVs G H ι (l.drop n) (vs.drop n)
  | 0, _, _, h => h
  | n + 1, [], _, rfl => by simp [DVs]
  | n + 1, d :: l, _, ⟨v, r, rfl, h, t⟩ => DVs.drop n t
theorem DVs.set : ∀ {l : List D} {vs : List V} (i : Nat) {d : D} {v : V}, DVs G H ι l vs → DV G H ι d v → DVs G H ι (l.set i d) (vs.set i v)
  | [], _, _, _, _, rfl, _ => by simp [DVs]
  | d :: l, _, 0, _, _, ⟨v, r, rfl, h, t⟩, k => ⟨_, r, rfl, k, t⟩
  | d :: l, _, i + 1, _, v', ⟨v, r, rfl, h, t⟩, k => ⟨v, r.set i v', rfl, h, DVs.set i t k⟩
theorem DVs.rep {d : D} {v : V} (h : DV G H ι d v) : ∀ n : Nat, DVs G H ι (List.replicate n d) (List.replicate n v)
  | 0 => rfl
  | n + 1 => ⟨v, _, rfl, h, DVs.rep h n⟩
theorem DVs.dropLast {l : List D} {vs : List V} (h : DVs G H ι l vs) : DVs G H ι l.dropLast vs.dropLast := by
  rw [List.dropLast_eq_take, List.dropLast_eq_take, h.length]
  exact h.take _
theorem DVs.reverse : ∀ {l : List D} {vs : List V}, DVs G H ι l vs → DVs G H ι l.reverse vs.reverse
  | [], _, rfl => rfl
  | d :: l, _, ⟨v, r, rfl, h, t⟩ => by
    rw [List.reverse_cons, List.reverse_cons]
    exact DVs.append (DVs.reverse t) ⟨v, [], rfl, h, rfl⟩
/-- the objects that it names stand in ι -/
theorem lt_of_get {ι : List Addr} {n : Nat} {a : Addr} (h : ι[n]? = some a) : n < ι.length := (List.getElem?_eq_some_iff.mp h).1
mutual
theorem DV.belw : ∀ (d : D) (v : V), DV G H ι d v → d.bel ι.length = true
  | .non, _, _ | .bl _, _, _ | .int _, _, _ | .str _, _, _ | .fn _, _, _ => rfl
  | .tup l, _, ⟨a, vs, e, s, r⟩ => DVs.belw l vs r
  | .lst l, _, ⟨a, vs, e, s, r⟩ => DVs.belw l vs r
  | .dic false ks vs, _, ⟨a, o, e, kvs, s, r1, r2⟩ => by simp only [D.bel]; rw [DVs.belw ks _ r1, DVs.belw vs _ r2]; rfl
  | .dic true ks vs, _, ⟨a, o, e, xs, ws, s, q, r1, r2, r3⟩ => by simp only [D.bel]; rw [DVs.belw ks _ r1, DVs.belw vs _ r3]; rfl
  | .obj c ds, _, ⟨a, o, C, dx, fs, ns, e, s, q1, q2, r⟩ => DVs.belw ds _ r
  | .ref n, _, ⟨a, e1, e2⟩ => decide_eq_true (lt_of_get e1)
  | .clo _ _, _, h => h.elim
  | .exn c ds, _, ⟨a, cls, dd, C, ns, e1, e2, e3, e4, .inl ⟨q1, q2, q3⟩⟩ => by subst q2; rfl
  | .exn c ds, _, ⟨a, cls, dd, C, ns, e1, e2, e3, e4, .inr ⟨d, o, fs, q1, q2, q3, r⟩⟩ => DVs.belw ds _ r
theorem DVs.belw : ∀ (l : List D) (vs : List V), DVs G H ι l vs → bels ι.length l = true
  | [], _, _ => rfl
  | d :: l, _, ⟨v, r, e, h, t⟩ => by simp only [bels]; rw [DV.belw d v h, DVs.belw l r t]; rfl
end
mutual
theorem DV.take (n : Nat) : ∀ (d : D) (v : V), d.bel n = true → DV G H ι d v → DV G H (ι.take n) d v
  | .non, _, _, h | .bl _, _, _, h | .int _, _, _, h | .str _, _, _, h => h
  | .fn _, _, _, h => h
  | .tup l, _, b, ⟨a, vs, e, s, r⟩ => ⟨a, vs, e, s, DVs.takeB n l vs b r⟩
  | .lst l, _, b, ⟨a, vs, e, s, r⟩ => ⟨a, vs, e, s, DVs.takeB n l vs b r⟩
  | .dic false ks vs, _, b, ⟨a, o, e, kvs, s, r1, r2⟩ => by
    simp only [D.bel, Bool.and_eq_true] at b
    exact ⟨a, o, e, kvs, s, DVs.takeB n ks _ b.1 r1, DVs.takeB n vs _ b.2 r2⟩
  | .dic true ks vs, _, b, ⟨a, o, e, xs, ws, s, q, r1, r2, r3⟩ => by
    simp only [D.bel, Bool.and_eq_true] at b
    exact ⟨a, o, e, xs, ws, s, q, DVs.takeB n ks _ b.1 r1, r2, DVs.takeB n vs _ b.2 r3⟩
  | .obj c ds, _, b, ⟨a, o, C, dx, fs, ns, e, s, q1, q2, r⟩ => ⟨a, o, C, dx, fs, ns, e, s, q1, q2, DVs.takeB n ds _ b r⟩
  | .ref m, _, b, ⟨a, e1, e2⟩ => ⟨a, by rw [List.getElem?_take_of_lt (of_decide_eq_true b)]; exact e1, e2⟩
  | .clo _ _, _, _, h => h.elim
  | .exn c ds, _, b, ⟨a, cls, dd, C, ns, e1, e2, e3, e4, .inl q⟩ => ⟨a, cls, dd, C, ns, e1, e2, e3, e4, .inl q⟩
  | .exn c ds, _, b, ⟨a, cls, dd, C, ns, e1, e2, e3, e4, .inr ⟨d, o, fs, q1, q2, q3, r⟩⟩ => ⟨a, cls, dd, C, ns, e1, e2, e3, e4, .inr ⟨d, o, fs, q1, q2, q3, DVs.takeB n ds _ b r⟩⟩
theorem DVs.takeB (n : Nat) : ∀ (l : List D) (vs : List V), bels n l = true → DVs G H ι l vs → DVs G H (ι.take n) l vs
  | [], _, _, h => h
  | d :: l, _, b, ⟨v, r, e, h, t⟩ => by
    simp only [bels, Bool.and_eq_true] at b
    exact ⟨v, r, e, DV.take n d v b.1 h, DVs.takeB n l r b.2 t⟩
end
mutual
theorem DV.xa (q : Option (Addr × Value × Option Addr)) (hq : G.xa = none) : ∀ (d : D) (v : V), DV G H ι d v → DV { G with xa := q } H ι d v
  | .non, _, h | .bl _, _, h | .int _, _, h | .str _, _, h => h
  | .fn _, _, h => h
  | .tup l, _, ⟨a, vs, e, s, r⟩ => ⟨a, vs, e, s, DVs.xa q hq l vs r⟩
  | .lst l, _, ⟨a, vs, e, s, r⟩ => ⟨a, vs, e, s, DVs.xa q hq l vs r⟩
  | .dic false ks vs, _, ⟨a, o, e, kvs, s, r1, r2⟩ => ⟨a, o, e, kvs, s, DVs.xa q hq ks _ r1, DVs.xa q hq vs _ r2⟩
  | .dic true ks vs, _, ⟨a, o, e, xs, ws, s, z, r1, r2, r3⟩ => ⟨a, o, e, xs, ws, s, z, DVs.xa q hq ks _ r1, r2, DVs.xa q hq vs _ r3⟩
  | .obj c ds, _, ⟨a, o, C, dx, fs, ns, e, s, q1, q2, r⟩ => ⟨a, o, C, dx, fs, ns, e, s, q1, q2, DVs.xa q hq ds _ r⟩
  | .ref n, _, h => h
  | .clo _ _, _, h => h.elim
  | .exn c ds, _, ⟨a, cls, dd, C, ns, e1, _⟩ => by rw [hq] at e1; cases e1
theorem DVs.xa (q : Option (Addr × Value × Option Addr)) (hq : G.xa = none) : ∀ (l : List D) (vs : List V), DVs G H ι l vs → DVs { G with xa := q } H ι l vs
  | [], _, h => h
  | d :: l, _, ⟨v, r, e, h, t⟩ => ⟨v, r, e, DV.xa q hq d v h, DVs.xa q hq l r t⟩
end
end

/-! ### mutable objects -/
def MV (G : Glo) (H : Hp) (ι : List Addr) (a : Addr) : MO → Prop
  | .lst l => ∃ vs, H a = some (.lst vs) ∧ DVs G H ι l vs
  | .dic false ks vs => ∃ kvs, H a = some (.dK kvs) ∧ DVs G H ι ks (kvs.map fun p => kV p.1) ∧ DVs G H ι vs (kvs.map (·.2))
  | .dic true ks vs => ∃ xs ws, H a = some (DN G a xs) ∧ ks.map nk = xs.map (fun x => some x.1) ∧ DVs G H ι ks (xs.map fun x => .ref x.2.1) ∧ Vals ws (xs.map (·.2.2)) ∧ DVs G H ι vs ws
  | .ins c ds => ∃ C dx fs ns, H a = some (.ins C dx fs) ∧ G.cl c = some (C, ns) ∧ fs.map (·.1) = ns.take ds.length ∧ DVs G H ι ds (fs.map (·.2))
section
variable {G : Glo} {H H' : Hp} {ι ι' : List Addr} {a p : Addr} {m m' : MO} {μ : MH}
theorem MV.chg (h : MV G H ι a m) : ∃ u, H a = some u ∧ Chg u := by
  cases m with
  | lst l => obtain ⟨vs, e, _⟩ := h; exact ⟨_, e, trivial⟩
  | dic t ks vs =>
    cases t with
    | false => obtain ⟨kvs, e, _⟩ := h; exact ⟨_, e, trivial⟩
    | true => obtain ⟨xs, ws, e, _⟩ := h; exact ⟨_, e, trivial⟩
  | ins c ds => obtain ⟨C, dx, fs, ns, e, _⟩ := h; exact ⟨_, e, trivial⟩
theorem MV.mono (x : Ext H H') (q : ι <+: ι') (e : H' a = H a) (h : MV G H ι a m) : MV G H' ι' a m := by
  cases m with
  | lst l => obtain ⟨vs, e1, r⟩ := h; exact ⟨vs, e.trans e1, DVs.mono x q _ _ r⟩
  | dic t ks vs =>
    cases t with
    | false => obtain ⟨kvs, e1, r1, r2⟩ := h; exact ⟨kvs, e.trans e1, DVs.mono x q _ _ r1, DVs.mono x q _ _ r2⟩
    | true => obtain ⟨xs, ws, e1, z, r1, r2, r3⟩ := h; exact ⟨xs, ws, e.trans e1, z, DVs.mono x q _ _ r1, r2, DVs.mono x q _ _ r3⟩
  | ins c ds => obtain ⟨C, dx, fs, ns, e1, z1, z2, r⟩ := h; exact ⟨C, dx, fs, ns, e.trans e1, z1, z2, DVs.mono x q _ _ r⟩
theorem MV.take (n : Nat) (b : m.bel n = true) (h : MV G H ι a m) : MV G H (ι.take n) a m := by
  cases m with
  | lst l => obtain ⟨vs, e1, r⟩ := h; exact ⟨vs, e1, DVs.takeB n _ _ b r⟩
  | dic t ks vs =>
    simp only [MO.bel, Bool.and_eq_true] at b
    cases t with
    | false => obtain ⟨kvs, e1, r1, r2⟩ := h; exact ⟨kvs, e1, DVs.takeB n _ _ b.1 r1, DVs.takeB n _ _ b.2 r2⟩
    | true => obtain ⟨xs, ws, e1, z, r1, r2, r3⟩ := h; exact ⟨xs, ws, e1, z, DVs.takeB n _ _ b.1 r1, r2, DVs.takeB n _ _ b.2 r3⟩
  | ins c ds => obtain ⟨C, dx, fs, ns, e1, z1, z2, r⟩ := h; exact ⟨C, dx, fs, ns, e1, z1, z2, DVs.takeB n _ _ b r⟩
theorem MV.belw (h : MV G H ι a m) : m.bel ι.length = true := by
  cases m with
  | lst l => obtain ⟨vs, e1, r⟩ := h; exact DVs.belw _ _ r
  | dic t ks vs =>
    simp only [MO.bel, Bool.and_eq_true]
    cases t with
    | false => obtain ⟨kvs, e1, r1, r2⟩ := h; exact ⟨DVs.belw _ _ r1, DVs.belw _ _ r2⟩
    | true => obtain ⟨xs, ws, e1, z, r1, r2, r3⟩ := h; exact ⟨DVs.belw _ _ r1, DVs.belw _ _ r3⟩
  | ins c ds => obtain ⟨C, dx, fs, ns, e1, z1, z2, r⟩ := h; exact DVs.belw _ _ r
theorem MV.xa (q : Option (Addr × Value × Option Addr)) (hq : G.xa = none) (h : MV G H ι a m) : MV { G with xa := q } H ι a m := by
  cases m with
  | lst l => obtain ⟨vs, e1, r⟩ := h; exact ⟨vs, e1, DVs.xa q hq _ _ r⟩
  | dic t ks vs =>
    cases t with
    | false => obtain ⟨kvs, e1, r1, r2⟩ := h; exact ⟨kvs, e1, DVs.xa q hq _ _ r1, DVs.xa q hq _ _ r2⟩
    | true => obtain ⟨xs, ws, e1, z, r1, r2, r3⟩ := h; exact ⟨xs, ws, e1, z, DVs.xa q hq _ _ r1, r2, DVs.xa q hq _ _ r3⟩
  | ins c ds => obtain ⟨C, dx, fs, ns, e1, z1, z2, r⟩ := h; exact ⟨C, dx, fs, ns, e1, z1, z2, DVs.xa q hq _ _ r⟩
/-- the mutable objects, each at an address of its own -/
structure HS (G : Glo) (H : Hp) (μ : MH) (ι : List Addr) : Prop where
  ln : ι.length = μ.length
  mo : ∀ (n : Nat) (m : MO), μ[n]? = some (some m) → ∃ a, ι[n]? = some a ∧ MV G H ι a m
  ap : ∀ (n n' : Nat) (m m' : MO) (a : Addr), μ[n]? = some (some m) → μ[n']? = some (some m') → ι[n]? = some a → ι[n']? = some a → n = n'
theorem HS.there (h : HS G H μ ι) {n : Nat} {m : MO} {a : Addr} (e : μ[n]? = some (some m)) (ea : ι[n]? = some a) : MV G H ι a m := by
  obtain ⟨b, e1, q⟩ := h.mo n m e
  rw [ea] at e1; cases e1
  exact q
theorem HS.same (h : HS G H μ ι) (s : Same H H') : HS G H' μ ι := by
  refine ⟨h.ln, fun n m e => ?_, h.ap⟩
  obtain ⟨a, e1, q⟩ := h.mo n m e
  obtain ⟨u, eu, _⟩ := q.chg
  exact ⟨a, e1, q.mono (Ext.same s) (List.prefix_refl _) ((s _ _ eu).trans eu.symm)⟩
theorem HS.alloc (h : HS G H μ ι) (hp : H p = none) (o : HO) (new : MV G (upd H p o) (ι ++ [p]) p m) : HS G (upd H p o) (μ ++ [some m]) (ι ++ [p]) := by
  have old : ∀ (n : Nat) (m' : MO), μ[n]? = some (some m') → ∃ a, ι[n]? = some a ∧ a ≠ p ∧ MV G H ι a m' := fun n m' e => by
    obtain ⟨a, e1, q⟩ := h.mo n m' e
    obtain ⟨u, eu, _⟩ := q.chg
    exact ⟨a, e1, ne_of_none eu hp, q⟩
  have split : ∀ (n : Nat) (m' : MO), (μ ++ [some m])[n]? = some (some m') → (n < μ.length ∧ μ[n]? = some (some m')) ∨ (n = μ.length ∧ m' = m) := fun n m' e => by
    by_cases q : n < μ.length
    · rw [List.getElem?_append_left q] at e
      exact .inl ⟨q, e⟩
    · rw [List.getElem?_append_right (by omega)] at e
      by_cases q' : n = μ.length
      · subst q'
        simp at e
        exact .inr ⟨rfl, e.symm⟩
      · have : ¬ n - μ.length < 1 := by omega
        rw [List.getElem?_eq_none (by simp; omega)] at e
        cases e
  refine ⟨by simp [h.ln], fun n m' e => ?_, fun n n' m1 m2 a e1 e2 e3 e4 => ?_⟩
  · rcases split n m' e with ⟨q, e⟩ | ⟨rfl, rfl⟩
    · obtain ⟨a, e1, na, r⟩ := old n m' e
      refine ⟨a, pre_get (List.prefix_append _ _) e1, r.mono (Ext.upd_free hp) (List.prefix_append _ _) (upd_ne na)⟩
    · refine ⟨p, ?_, new⟩
      rw [← h.ln]; simp
  · have at1 : ∀ {n : Nat} {m1 : MO}, n < μ.length → μ[n]? = some (some m1) → (ι ++ [p])[n]? = some a → ι[n]? = some a ∧ a ≠ p := fun {n m1} q e e3 => by
      obtain ⟨b, e5, nb, _⟩ := old n m1 e
      have := pre_get (List.prefix_append ι [p]) e5
      rw [e3] at this; cases this
      exact ⟨e5, nb⟩
    have atp : (ι ++ [p])[μ.length]? = some a → a = p := fun e => by
      rw [← h.ln] at e
      simp at e
      exact e.symm
    rcases split n m1 e1 with ⟨q1, f1⟩ | ⟨z1, z1'⟩ <;> rcases split n' m2 e2 with ⟨q2, f2⟩ | ⟨z2, z2'⟩
    · exact h.ap n n' m1 m2 a f1 f2 (at1 q1 f1 e3).1 (at1 q2 f2 e4).1
    · subst z2
      exact absurd (atp e4) (at1 q1 f1 e3).2
    · subst z1
      exact absurd (atp e3) (at1 q2 f2 e4).2
    · exact z1.trans z2.symm
theorem HS.write (h : HS G H μ ι) {n : Nat} (e : μ[n]? = some (some m)) (ea : ι[n]? = some a) (o : HO) (new : MV G (upd H a o) ι a m') : HS G (upd H a o) (μ.set n (some m')) ι := by
  have ln : n < μ.length := (List.getElem?_eq_some_iff.mp e).1
  obtain ⟨u, eu, cu⟩ := (h.there e ea).chg
  refine ⟨by simp [h.ln], fun k m1 ek => ?_, fun k k' m1 m2 b e1 e2 e3 e4 => ?_⟩
  · by_cases q : n = k
    · subst q
      rw [List.getElem?_set_self ln] at ek
      cases ek
      exact ⟨a, ea, new⟩
    · rw [List.getElem?_set_ne q] at ek
      obtain ⟨b, e1, r⟩ := h.mo k m1 ek
      refine ⟨b, e1, r.mono (Ext.upd_chg eu cu) (List.prefix_refl _) (upd_ne fun z => ?_)⟩
      subst z
      exact q (h.ap n k m m1 b e ek ea e1)
  · have w : ∀ {k : Nat} {m1 : MO}, (μ.set n (some m'))[k]? = some (some m1) → ∃ m2, μ[k]? = some (some m2) := fun {k m1} e1 => by
      by_cases q : n = k
      · subst q; exact ⟨m, e⟩
      · rw [List.getElem?_set_ne q] at e1; exact ⟨m1, e1⟩
    obtain ⟨m3, e5⟩ := w e1
    obtain ⟨m4, e6⟩ := w e2
    exact h.ap k k' m3 m4 b e5 e6 e3 e4
theorem HS.frz (h : HS G H μ ι) {n : Nat} (e : μ[n]? = some (some m)) (ea : ι[n]? = some a) (o : HO) : HS G (upd H a o) (μ.set n none) ι := by
  have ln : n < μ.length := (List.getElem?_eq_some_iff.mp e).1
  obtain ⟨u, eu, cu⟩ := (h.there e ea).chg
  have back : ∀ {k : Nat} {m1 : MO}, (μ.set n none)[k]? = some (some m1) → n ≠ k ∧ μ[k]? = some (some m1) := fun {k m1} e1 => by
    by_cases q : n = k
    · subst q; rw [List.getElem?_set_self ln] at e1; cases e1
    · rw [List.getElem?_set_ne q] at e1; exact ⟨q, e1⟩
  refine ⟨by simp [h.ln], fun k m1 ek => ?_, fun k k' m1 m2 b e1 e2 e3 e4 => h.ap k k' m1 m2 b (back e1).2 (back e2).2 e3 e4⟩
  obtain ⟨q, ek⟩ := back ek
  obtain ⟨b, e1, r⟩ := h.mo k m1 ek
  refine ⟨b, e1, r.mono (Ext.upd_chg eu cu) (List.prefix_refl _) (upd_ne fun z => ?_)⟩
  subst z
  exact q (h.ap n k m m1 b e ek ea e1)
theorem HS.xa (q : Option (Addr × Value × Option Addr)) (hq : G.xa = none) (h : HS G H μ ι) : HS { G with xa := q } H μ ι :=
  ⟨h.ln, fun n m e => let ⟨a, e1, r⟩ := h.mo n m e; ⟨a, e1, r.xa q hq⟩, h.ap⟩
end
end SZ
end
section
/-! SZ, part B: results, the judgements, plain expressions. -/
namespace SZ
open PySem PySem.Spec PyProof.Rows L2

inductive R (α : Type) where
  | ok (a : α) (μ : MH)
  | ex (c : Nat) (ds : List D) (μ : MH)
  | no
@[simp] def R.bind {α β : Type} (r : R α) (k : α → MH → R β) : R β :=
  match r with
  | .ok a μ => k a μ
  | .ex c ds μ => .ex c ds μ
  | .no => .no
abbrev Sl := List (Option D)
abbrev EF := Sl → MH → R D
abbrev AF := Sl → MH → R (List D)
abbrev TF := Sl → MH → R Bool

structure RS (G : Glo) (σ : L2.St) (H : Hp) (δ : Sl) (μ : MH) (ι : List Addr) : Prop where
  hs : HS G H μ ι
  ln : δ.length = σ.length
  sl : ∀ (i : Nat) (d : D), δ[i]? = some (some d) → ∃ v, σ[i]? = some (some v) ∧ DV G H ι d v
/-- an exception, by its class and fields -/
def XR (G : Glo) (H : Hp) (ι : List Addr) (c : Nat) (ds : List D) (cls : Value) (dd : Option Addr) : Prop :=
  ∃ C ns, G.cl c = some (C, ns) ∧ cls = .ref C ∧ ((ns = [] ∧ ds = [] ∧ dd = none) ∨ ∃ d fs, dd = some d ∧ H d = some (.xd fs) ∧ fs.map (·.1) = ns ∧ DVs G H ι ds (fs.map (·.2)))
/-- the reading of a result -/
def RR {α β : Type} (G : Glo) (W : WX) (σ : L2.St) (δ : Sl) (rel : Hp → List Addr → α → β → Prop) (H : Hp) (ι : List Addr) (r : R α) (Q : β → Hp → Prop) : Prop :=
  match r with
  | .ok a μ => ∀ b H' ι', Ext H H' → ι <+: ι' → RS G σ H' δ μ ι' → rel H' ι' a b → Q b H'
  | .ex c ds μ => ∀ cls dd H' ι', Ext H H' → ι <+: ι' → RS G σ H' δ μ ι' → XR G H' ι' c ds cls dd → W cls dd σ H'
  | .no => False
section
variable {α β γ ε : Type} {G : Glo} {W : WX} {σ : L2.St} {δ : Sl} {rel : Hp → List Addr → α → β → Prop} {rel2 : Hp → List Addr → γ → ε → Prop} {H H1 : Hp} {ι ι1 : List Addr} {r : R α} {Q Q' : β → Hp → Prop} {μ : MH}
theorem RR.at_ (h : RR G W σ δ rel H ι r Q) (x : Ext H H1) (p : ι <+: ι1) : RR G W σ δ rel H1 ι1 r Q := by
  cases r with
  | ok a μ => exact fun b H' ι' x' p' => h b H' ι' (x.trans x') (p.trans p')
  | ex c ds μ => exact fun cls dd H' ι' x' p' => h cls dd H' ι' (x.trans x') (p.trans p')
  | no => exact h
theorem RR.imp (h : RR G W σ δ rel H ι r Q) (hq : ∀ b H', Q b H' → Q' b H') : RR G W σ δ rel H ι r Q' := by
  cases r with
  | ok a μ => exact fun b H' ι' x' p' rs hb => hq _ _ (h b H' ι' x' p' rs hb)
  | ex c ds μ => exact h
  | no => exact h
theorem RR.bnd {k : α → MH → R γ} {P : ε → Hp → Prop} (h : RR G W σ δ rel2 H ι (r.bind k) P)
    (hk : ∀ a μ b H' ι', Ext H H' → ι <+: ι' → RS G σ H' δ μ ι' → rel H' ι' a b → RR G W σ δ rel2 H' ι' (k a μ) P → Q b H') : RR G W σ δ rel H ι r Q := by
  cases r with
  | ok a μ => exact fun b H' ι' x p rs hb => hk a μ b H' ι' x p rs hb (RR.at_ h x p)
  | ex c ds μ => exact h
  | no => exact h
theorem RR.now {a : α} {b : β} (h : RR G W σ δ rel H ι (.ok a μ) Q) (rs : RS G σ H δ μ ι) (hb : rel H ι a b) : Q b H := h b H ι .refl (List.prefix_refl _) rs hb
end

/-- a calm context: what the rules ask of it -/
structure CC (k : Nat) (X : Cx) (G : Glo) (W : WX) : Prop where
  hP : X.prog = G.P
  hw : X.w = G.w
  hK : X.K = G.K
  hm : X.mg = G.mg
  calm : X.calm = true
  room : Room k X.A
  nd : X.N.Nodup
  tk : Takes X W
  po : PassesOwn (model X.prog X.w) X.A X.env X.xe
  xa : G.xa = none
def rE (G : Glo) (W : WX) (f : EF) : TE := fun σ H Q => ∃ δ μ ι, RS G σ H δ μ ι ∧ RR G W σ δ (DV G) H ι (f δ μ) Q
def rA (G : Glo) (W : WX) (f : AF) : TA := fun σ H Q => ∃ δ μ ι, RS G σ H δ μ ι ∧ RR G W σ δ (DVs G) H ι (f δ μ) Q
def rT (G : Glo) (W : WX) (f : TF) : TT := fun σ H Q => ∃ δ μ ι, RS G σ H δ μ ι ∧ RR G W σ δ (fun _ _ (a b : Bool) => a = b) H ι (f δ μ) Q
def DE (k : Nat) (X : Cx) (G : Glo) (W : WX) (e : Expr) (f : EF) : Prop := CC k X G W → PE X e (rE G W f)
def DA (k : Nat) (X : Cx) (G : Glo) (W : WX) (es : List Expr) (f : AF) : Prop := CC k X G W → PA X es (rA G W f)
def DT (k : Nat) (X : Cx) (G : Glo) (W : WX) (e : Expr) (f : TF) : Prop := CC k X G W → PT X e (rT G W f)
def DW (k : Nat) (X : Cx) (G : Glo) (W : WX) (e : Expr) (f : TF) : Prop := CC k X G W → PW X e (rT G W f)
theorem peI {X : Cx} {e : Expr} {t t' : TE} (h : PE X e t) (i : ∀ σ H Q, t' σ H Q → t σ H Q) : PE X e t' := ⟨fun pins s σ H Q I q => h.run pins s σ H Q I (i _ _ _ q)⟩
theorem paI {X : Cx} {e : List Expr} {t t' : TA} (h : PA X e t) (i : ∀ σ H Q, t' σ H Q → t σ H Q) : PA X e t' := ⟨fun p pins s σ H Q I q => h.run p pins s σ H Q I (i _ _ _ q)⟩
theorem ptI {X : Cx} {e : Expr} {t t' : TT} (h : PT X e t) (i : ∀ σ H Q, t' σ H Q → t σ H Q) : PT X e t' := ⟨fun pins s σ H Q I q => h.run pins s σ H Q I (i _ _ _ q)⟩
theorem pwI {X : Cx} {e : Expr} {t t' : TT} (h : PW X e t) (i : ∀ σ H Q, t' σ H Q → t σ H Q) : PW X e t' := ⟨fun wh pins s σ H Q I q => h.run wh pins s σ H Q I (i _ _ _ q)⟩

section
variable {k : Nat} {X : Cx} {G : Glo} {W : WX} {a b c : Expr} {fa fb fc : EF} {ta tb : TF} {pos : Pos} {es : List Expr} {fs : AF}

/-! ### names, constants -/
@[simp] def eVar (i : Nat) : EF := fun δ μ => match δ[i]? with
  | some (some d) => .ok d μ
  | _ => .no
@[simp] def eC (d : D) : EF := fun _ μ => .ok d μ
theorem de_var (i : Nat) {x : Str} (hN : X.N[i]? = some x := by rfl) (hv : Vis X.env.scope x := by first | exact Or.inl rfl | exact Or.inr (Or.inl rfl) | exact Or.inr (Or.inr rfl)) (hd : (x == ("__debug__" : Str)) = false := by decide)
    (hcd : (x == ("__classdict__" : Str)) = false := by decide) : DE k X G W (.Name x pos) (eVar i) := fun _ => by
  refine peI (pe_var hN hv hd hcd) fun σ H Q ⟨δ, μ, ι, rs, h⟩ => ?_
  unfold eVar at h
  cases e : δ[i]? with
  | none => simp only [e] at h; exact h.elim
  | some o =>
    cases o with
    | none => simp only [e] at h; exact h.elim
    | some d =>
      simp only [e] at h
      obtain ⟨v, e1, r⟩ := rs.sl i d e
      exact ⟨v, e1, h.now rs r⟩
theorem de_const {e : Expr} {v : V} {d : D} (h : PE X e (tC v)) (hd : ∀ H ι, DV G H ι d v) : DE k X G W e (eC d) := fun _ =>
  peI h fun σ H Q ⟨δ, μ, ι, rs, q⟩ => RR.now q rs (hd H ι)
theorem de_int {i : Int} {j pos} : DE k X G W (.Constant (.int i) j pos) (eC (.int i)) := de_const pe_int fun _ _ => rfl
theorem de_bl {b : Bool} {j pos} : DE k X G W (.Constant (.bool b) j pos) (eC (.bl b)) := de_const pe_bl fun _ _ => rfl
theorem de_non {j pos} : DE k X G W (.Constant .none j pos) (eC .non) := de_const pe_non fun _ _ => rfl
theorem de_str {x : Str} {j pos} : DE k X G W (.Constant (.str x) j pos) (eC (.str x)) := de_const pe_str fun _ _ => rfl
/-- a name of the module, as data -/
theorem de_glob {x : Str} {d : D} {v : V} {u : Value} (hm : G.mg x = some u) (r : RelV v u) (hd : ∀ H ι, DV G H ι d v) (hg : Gl X x := by rfl) (hb : (x == ("__debug__" : Str)) = false := by decide) : DE k X G W (.Name x pos) (eC d) := fun cc =>
  peI (pe_glob hg (by rw [cc.hm]; exact hm) r hb) fun σ H Q ⟨δ, μ, ι, rs, q⟩ => RR.now q rs (hd H ι)

/-! ### two-place operations -/
@[simp] def eB (op : D → D → MH → R D) (fa fb : EF) : EF := fun δ μ => (fa δ μ).bind fun x μ => (fb δ μ).bind fun y μ => op x y μ
/-- an operation on values does what op does on data -/
def OpD (k : Nat) (X : Cx) (G : Glo) (W : WX) (f : Value → Value → Sem Value) (op : D → D → MH → R D) : Prop := CC k X G W →
  ∀ (pins : List (Addr × Obj)) (s : Shared) (σ : L2.St) (H : Hp) (δ : Sl) (μ : MH) (ι : List Addr) (d e : D) (x y : V) (v u : Value) (Q : VK), Inv X pins σ H s → RelV x v → RelV y u → RS G σ H δ μ ι → DV G H ι d x → DV G H ι e y →
    RR G W σ δ (DV G) H ι (op d e μ) Q → wpAny (model X.prog X.w) X.A (f v u) (EP X pins σ Q) X.xe s
theorem OpD.of {f : Value → Value → Sem Value} {op : D → D → MH → R D} {r : R2} (ho : CC k X G W → OpR X f r)
    (h : CC k X G W → ∀ (σ : L2.St) (H : Hp) (δ : Sl) (μ : MH) (ι : List Addr) (d e : D) (x y : V) (Q : VK), RS G σ H δ μ ι → DV G H ι d x → DV G H ι e y → RR G W σ δ (DV G) H ι (op d e μ) Q → r x y H Q) : OpD k X G W f op :=
  fun cc pins s σ H δ μ ι d e x y v u Q I rx ry rs dx dy q => ho cc pins s σ H x y v u Q I rx ry (h cc σ H δ μ ι d e x y Q rs dx dy q)
theorem eB_read {op : D → D → MH → R D} {σ : L2.St} {H : Hp} {Q : VK} {R' : V → V → Hp → Prop} (h : rE G W (eB op fa fb) σ H Q)
    (hk : ∀ δ μ ι d e x y H2, RS G σ H2 δ μ ι → DV G H2 ι d x → DV G H2 ι e y → RR G W σ δ (DV G) H2 ι (op d e μ) Q → R' x y H2) :
    rE G W fa σ H fun x H1 => rE G W fb σ H1 fun y H2 => R' x y H2 := by
  obtain ⟨δ, μ, ι, rs, h⟩ := h
  refine ⟨δ, μ, ι, rs, RR.bnd h fun d μ1 x H1 ι1 x1 p1 rs1 dx h1 => ⟨δ, μ1, ι1, rs1, RR.bnd h1 fun e μ2 y H2 ι2 x2 p2 rs2 dy h2 => ?_⟩⟩
  exact hk δ μ2 ι2 d e x y H2 rs2 (DV.mono x2 p2 _ _ dx) dy h2
theorem de_op {o : Operator} {op : D → D → MH → R D} (ho : OpD k X G W (binaryOp o) op) (ha : DE k X G W a fa) (hb : DE k X G W b fb) : DE k X G W (.BinOp a o b pos) (eB op fa fb) := fun cc => by
  refine ⟨fun pins s σ H Q I h => ?_⟩
  have h' := eB_read (R' := fun x y H2 => ∃ δ μ ι d e, RS G σ H2 δ μ ι ∧ DV G H2 ι d x ∧ DV G H2 ι e y ∧ RR G W σ δ (DV G) H2 ι (op d e μ) Q) h fun δ μ ι d e x y H2 rs dx dy q => ⟨δ, μ, ι, d, e, rs, dx, dy, q⟩
  exact wpAny_BinOp (binT (ha cc) (hb cc) I h' fun v u s2 x y H2 I2 rx ry ⟨δ, μ, ι, d, e, rs, dx, dy, q⟩ => ho cc pins s2 σ H2 δ μ ι d e x y v u Q I2 rx ry rs dx dy q)
theorem de_cmp {o : CmpOp} {op : D → D → MH → R D} (ho : OpD k X G W (compareOp o) op) (ha : DE k X G W a fa) (hb : DE k X G W b fb)
    (hm : behindInMarks o b = false := by first | exact nomark _ | with_unfolding_all rfl) : DE k X G W (.Compare a [o] [b] pos) (eB op fa fb) := fun cc => by
  refine ⟨fun pins s σ H Q I h => ?_⟩
  have h' := eB_read (R' := fun x y H2 => ∃ δ μ ι d e, RS G σ H2 δ μ ι ∧ DV G H2 ι d x ∧ DV G H2 ι e y ∧ RR G W σ δ (DV G) H2 ι (op d e μ) Q) h fun δ μ ι d e x y H2 rs dx dy q => ⟨δ, μ, ι, d, e, rs, dx, dy, q⟩
  exact wpAny_Compare1 (binT (ha cc) (hb cc) I h' fun v u s2 x y H2 I2 rx ry ⟨δ, μ, ι, d, e, rs, dx, dy, q⟩ => ho cc pins s2 σ H2 δ μ ι d e x y v u Q I2 rx ry rs dx dy q) hm
/-- a bool -/
@[simp] def asB : D → MH → R Bool := fun d μ => match d with
  | .bl b => .ok b μ
  | _ => .no
@[simp] def tVal (f : EF) : TF := fun δ μ => (f δ μ).bind asB
theorem asB_of {σ : L2.St} {δ : Sl} {H : Hp} {ι : List Addr} {d : D} {x : V} {μ : MH} {Q : Bool → Hp → Prop} (rs : RS G σ H δ μ ι) (dx : DV G H ι d x) (q : RR G W σ δ (fun _ _ (a b : Bool) => a = b) H ι (asB d μ) Q) :
    ∃ c, x = .bl c ∧ Q c H := by
  cases d with
  | bl c => exact ⟨c, dx, q.now rs rfl⟩
  | _ => exact q.elim
theorem dt_cmp {o : CmpOp} {op : D → D → MH → R D} (ho : OpD k X G W (compareOp o) op) (ha : DE k X G W a fa) (hb : DE k X G W b fb)
    (hm : behindInMarks o b = false := by first | exact nomark _ | with_unfolding_all rfl) : DT k X G W (.Compare a [o] [b] pos) (tVal (eB op fa fb)) := fun cc => by
  refine ⟨fun pins s σ H Q I h => ?_⟩
  obtain ⟨δ, μ, ι, rs, h⟩ := h
  have h1 : rE G W (eB op fa fb) σ H fun x H1 => ∃ c, x = .bl c ∧ Q c H1 := ⟨δ, μ, ι, rs, RR.bnd h fun d μ1 x H1 ι1 x1 p1 rs1 dx q => asB_of rs1 dx q⟩
  have h' := eB_read (R' := fun x y H2 => ∃ δ μ ι d e, RS G σ H2 δ μ ι ∧ DV G H2 ι d x ∧ DV G H2 ι e y ∧ RR G W σ δ (DV G) H2 ι (op d e μ) fun x H1 => ∃ c, x = .bl c ∧ Q c H1) h1 fun δ μ ι d e x y H2 rs dx dy q => ⟨δ, μ, ι, d, e, rs, dx, dy, q⟩
  refine wpAny_isTrue_Compare1 (binT (ha cc) (hb cc) I h' fun v u s2 x y H2 I2 rx ry ⟨δ, μ, ι, d, e, rs, dx, dy, q⟩ => thn (ho cc pins s2 σ H2 δ μ ι d e x y v u _ I2 rx ry rs dx dy q) fun w s3 ⟨z, H3, I3, r3, c, ec, q3⟩ => ?_) hm
  subst ec
  cases r3
  exact wpAny_truthy_bool ⟨H3, I3, q3⟩
/-- an expression whose value is a bool, as a test -/
theorem dt_val {e : Expr} {f : EF} (h : DE k X G W e f) (he : ∀ whole, isTrue e X.env whole = (do let v ← whole; standAt e.pos; holding [v] (truthy v)) := by intro _; rfl) : DT k X G W e (tVal f) := fun cc =>
  ptI (pt_val (h cc) he) fun σ H Q ⟨δ, μ, ι, rs, q⟩ => ⟨δ, μ, ι, rs, RR.bnd q fun d μ1 x H1 ι1 x1 p1 rs1 dx q => asB_of rs1 dx q⟩

/-! ### and, or, not, if -/
@[simp] def tAndD (t u : TF) : TF := fun δ μ => (t δ μ).bind fun c μ => if c = true then u δ μ else .ok false μ
@[simp] def tOrD (t u : TF) : TF := fun δ μ => (t δ μ).bind fun c μ => if c = true then .ok true μ else u δ μ
@[simp] def tNotD (t : TF) : TF := fun δ μ => (t δ μ).bind fun c μ => .ok (!c) μ
theorem dt_not (h : DT k X G W a ta) : DT k X G W (.UnaryOp .Not a pos) (tNotD ta) := fun cc =>
  ptI (pt_not (h cc)) fun σ H Q ⟨δ, μ, ι, rs, q⟩ => ⟨δ, μ, ι, rs, RR.bnd q fun d μ1 x H1 ι1 x1 p1 rs1 dx q => by subst dx; exact q.now rs1 rfl⟩
theorem dt_w (h : DW k X G W a ta) : DT k X G W a ta := fun cc => (h cc).pt
theorem dw_and1 (h : DT k X G W a ta) : DW k X G W (.BoolOp .And [a] pos) ta := fun cc => pw_and1 (h cc)
theorem dw_or1 (h : DT k X G W a ta) : DW k X G W (.BoolOp .Or [a] pos) ta := fun cc => pw_or1 (h cc)
theorem dw_and (h : DT k X G W a ta) (h2 : DW k X G W (.BoolOp .And (b :: es) pos) tb) : DW k X G W (.BoolOp .And (a :: b :: es) pos) (tAndD ta tb) := fun cc =>
  pwI (pw_and (h cc) (h2 cc)) fun σ H Q ⟨δ, μ, ι, rs, q⟩ => ⟨δ, μ, ι, rs, RR.bnd q fun d μ1 x H1 ι1 x1 p1 rs1 dx q => by
    subst dx
    cases d with
    | true => rw [if_pos rfl] at q ⊢; exact ⟨δ, μ1, ι1, rs1, q⟩
    | false => rw [if_neg Bool.false_ne_true] at q ⊢; exact q.now rs1 rfl⟩
theorem dw_or (h : DT k X G W a ta) (h2 : DW k X G W (.BoolOp .Or (b :: es) pos) tb) : DW k X G W (.BoolOp .Or (a :: b :: es) pos) (tOrD ta tb) := fun cc =>
  pwI (pw_or (h cc) (h2 cc)) fun σ H Q ⟨δ, μ, ι, rs, q⟩ => ⟨δ, μ, ι, rs, RR.bnd q fun d μ1 x H1 ι1 x1 p1 rs1 dx q => by
    subst dx
    cases d with
    | true => rw [if_pos rfl] at q ⊢; exact q.now rs1 rfl
    | false => rw [if_neg Bool.false_ne_true] at q ⊢; exact ⟨δ, μ1, ι1, rs1, q⟩⟩
/-- as values (bools) -/
@[simp] def eAnd (fa fb : EF) : EF := fun δ μ => (fa δ μ).bind fun d μ => (asB d μ).bind fun c μ => if c = true then fb δ μ else .ok (.bl false) μ
@[simp] def eOr (fa fb : EF) : EF := fun δ μ => (fa δ μ).bind fun d μ => (asB d μ).bind fun c μ => if c = true then .ok (.bl true) μ else fb δ μ
@[simp] def eNot (fa : EF) : EF := fun δ μ => (fa δ μ).bind fun d μ => (asB d μ).bind fun c μ => .ok (.bl (!c)) μ
theorem asB_k {σ : L2.St} {δ : Sl} {H : Hp} {ι : List Addr} {d : D} {x : V} {μ : MH} {kk : Bool → MH → R D} {Q : VK} (dx : DV G H ι d x) (q : RR G W σ δ (DV G) H ι ((asB d μ).bind kk) Q) :
    ∃ c, x = .bl c ∧ RR G W σ δ (DV G) H ι (kk c μ) Q := by
  cases d with
  | bl c => exact ⟨c, dx, q⟩
  | _ => exact q.elim
theorem de_one {op : BoolOp} (h : DE k X G W a fa) : DE k X G W (.BoolOp op [a] pos) fa := fun cc => pe_one (h cc)
theorem de_and (h : DE k X G W a fa) (h2 : DE k X G W (.BoolOp .And (b :: es) pos) fb) : DE k X G W (.BoolOp .And (a :: b :: es) pos) (eAnd fa fb) := fun cc =>
  peI (pe_and (h cc) (h2 cc)) fun σ H Q ⟨δ, μ, ι, rs, q⟩ => ⟨δ, μ, ι, rs, RR.bnd q fun d μ1 x H1 ι1 x1 p1 rs1 dx q => by
    obtain ⟨c, e, q⟩ := asB_k dx q
    refine ⟨c, e, ?_⟩
    cases c with
    | true => rw [if_pos rfl] at q ⊢; exact ⟨δ, μ1, ι1, rs1, q⟩
    | false => rw [if_neg Bool.false_ne_true] at q ⊢; exact q.now rs1 rfl⟩
theorem de_or (h : DE k X G W a fa) (h2 : DE k X G W (.BoolOp .Or (b :: es) pos) fb) : DE k X G W (.BoolOp .Or (a :: b :: es) pos) (eOr fa fb) := fun cc =>
  peI (pe_or (h cc) (h2 cc)) fun σ H Q ⟨δ, μ, ι, rs, q⟩ => ⟨δ, μ, ι, rs, RR.bnd q fun d μ1 x H1 ι1 x1 p1 rs1 dx q => by
    obtain ⟨c, e, q⟩ := asB_k dx q
    refine ⟨c, e, ?_⟩
    cases c with
    | true => rw [if_pos rfl] at q ⊢; exact q.now rs1 rfl
    | false => rw [if_neg Bool.false_ne_true] at q ⊢; exact ⟨δ, μ1, ι1, rs1, q⟩⟩
theorem de_not (h : DE k X G W a fa) : DE k X G W (.UnaryOp .Not a pos) (eNot fa) := fun cc =>
  peI (pe_not (h cc)) fun σ H Q ⟨δ, μ, ι, rs, q⟩ => ⟨δ, μ, ι, rs, RR.bnd q fun d μ1 x H1 ι1 x1 p1 rs1 dx q => by
    obtain ⟨c, e, q⟩ := asB_k dx q
    exact ⟨c, e, q.now rs1 rfl⟩⟩
@[simp] def eIf (t : TF) (fa fb : EF) : EF := fun δ μ => (t δ μ).bind fun c μ => if c = true then fa δ μ else fb δ μ
theorem de_if (hc : DT k X G W c ta) (ha : DE k X G W a fa) (hb : DE k X G W b fb) : DE k X G W (.IfExp c a b pos) (eIf ta fa fb) := fun cc =>
  peI (pe_ifExp (hc cc) (ha cc) (hb cc)) fun σ H Q ⟨δ, μ, ι, rs, q⟩ => ⟨δ, μ, ι, rs, RR.bnd q fun d μ1 x H1 ι1 x1 p1 rs1 dx q => by
    subst dx
    cases d with
    | true => rw [if_pos rfl] at q ⊢; exact ⟨δ, μ1, ι1, rs1, q⟩
    | false => rw [if_neg Bool.false_ne_true] at q ⊢; exact ⟨δ, μ1, ι1, rs1, q⟩⟩
/-- a < b <= c -/
@[simp] def eCh (o1 o2 : D → D → MH → R D) (fa fb fc : EF) : EF := fun δ μ => (fa δ μ).bind fun x μ => (fb δ μ).bind fun y μ => (o1 x y μ).bind fun d μ => (asB d μ).bind fun c μ =>
  if c = true then (fc δ μ).bind fun z μ => o2 y z μ else .ok (.bl false) μ

/-! ### argument lists, displays -/
@[simp] def aNil : AF := fun _ μ => .ok [] μ
@[simp] def aCons (f : EF) (g : AF) : AF := fun δ μ => (f δ μ).bind fun d μ => (g δ μ).bind fun l μ => .ok (d :: l) μ
theorem da_nil : DA k X G W [] aNil := fun _ => paI pa_nil fun σ H Q ⟨δ, μ, ι, rs, q⟩ => RR.now q rs rfl
theorem da_cons (h : DE k X G W a fa) (t : DA k X G W es fs) (hs : starEach (a :: es) X.env = (false, eval a X.env) :: starEach es X.env := by rfl) : DA k X G W (a :: es) (aCons fa fs) := fun cc =>
  paI (pa_cons (h cc) (t cc) hs) fun σ H Q ⟨δ, μ, ι, rs, q⟩ => ⟨δ, μ, ι, rs, RR.bnd q fun d μ1 x H1 ι1 x1 p1 rs1 dx q => ⟨δ, μ1, ι1, rs1, RR.bnd q fun l μ2 xs H2 ι2 x2 p2 rs2 dl q => q.now rs2 (DVs.cons (DV.mono x2 p2 _ _ dx) dl)⟩⟩
theorem RS.same {σ : L2.St} {H H' : Hp} {δ : Sl} {μ : MH} {ι : List Addr} (h : RS G σ H δ μ ι) (s : Same H H') : RS G σ H' δ μ ι :=
  ⟨h.hs.same s, h.ln, fun i d e => let ⟨v, e1, r⟩ := h.sl i d e; ⟨v, e1, DV.mono (Ext.same s) (List.prefix_refl _) _ _ r⟩⟩
/-- a new object of no own mutation: the state goes on -/
theorem RR.new {α β : Type} {σ : L2.St} {δ : Sl} {rel : Hp → List Addr → α → β → Prop} {H : Hp} {ι : List Addr} {aa : α} {μ : MH} {Q : β → Hp → Prop} {p : Addr} {o : HO} {b : β} (h : RR G W σ δ rel H ι (.ok aa μ) Q) (rs : RS G σ H δ μ ι) (hp : H p = none) (hb : rel (upd H p o) ι aa b) :
    Q b (upd H p o) := h b _ ι (Ext.upd_free hp) (List.prefix_refl _) (rs.same (Same.upd_free hp)) hb
@[simp] def eTup (g : AF) : EF := fun δ μ => (g δ μ).bind fun l μ => if l.length ≤ sizeLine then .ok (.tup l) μ else .no
theorem de_tup {x1} (h : DA k X G W es fs) : DE k X G W (.Tuple es x1 pos) (eTup fs) := fun cc =>
  peI (pe_tup (h cc)) fun σ H Q ⟨δ, μ, ι, rs, q⟩ => ⟨δ, μ, ι, rs, RR.bnd q fun l μ1 xs H1 ι1 x1 p1 rs1 dl q => by
    by_cases hl : l.length ≤ sizeLine
    · rw [if_pos hl] at q
      refine ⟨by rw [← dl.length]; exact hl, fun p hp => ?_⟩
      exact q.new rs1 hp ⟨p, xs, rfl, SqT.of upd_same, DVs.mono (Ext.upd_free hp) (List.prefix_refl _) _ _ dl⟩
    · rw [if_neg hl] at q
      exact q.elim⟩
end
end SZ
end
section
/-! SZ, part C: freezing; what lists, tuples, dicts answer. -/
namespace SZ
open PySem PySem.Spec PyProof.Rows L2

/-! ### freezing -/
def Frz : HO → Prop
  | .lst _ | .dK _ | .ins _ _ _ | .xd _ | .ext _ => True
  | _ => False
theorem Frz.chg {u : HO} (h : Frz u) : Chg u := by cases u <;> first | exact trivial | exact h.elim
section
variable {X : Cx} {pins : List (Addr × Obj)} {σ : L2.St} {H : Hp} {s : Shared} {a : Addr} {u : HO}
theorem obj_of {P : Program} {w : World} {H : Hp} {h : Heap} (x : ObjOk P w H h a u) (f : Frz u) : ∃ o, h.get? a = some o := by
  cases u with
  | lst xs => obtain ⟨_, _, _, _, e⟩ := x; exact ⟨_, e⟩
  | dK kvs => obtain ⟨_, _, _, _, o, _, _, e, _⟩ := x; exact ⟨_, e⟩
  | ins C dx fs => obtain ⟨_, _, _, e, _⟩ := x; exact ⟨_, e⟩
  | xd fs => obtain ⟨_, ⟨_, _, _, e, _⟩, _⟩ := x; exact ⟨_, e⟩
  | ext φ => obtain ⟨_, ⟨_, e⟩, _⟩ := x; exact ⟨_, e⟩
  | _ => exact f.elim
theorem freeze (I : Inv X pins σ H s) (h : H a = some u) (f : Frz u) : ∃ o, Inv X pins σ (upd H a (.frz o u)) s := by
  have ok := I.hok a u h
  obtain ⟨o, ho⟩ := obj_of ok f
  have nown : ∀ b y, H b = some (.own y) → b ≠ a := fun b y r z => by subst z; rw [h] at r; cases r; exact f
  have ntup : ∀ b xs, H b = some (.tup xs) → b ≠ a := fun b y r z => by subst z; rw [h] at r; cases r; exact f
  have nfrz : ∀ b ob xs, H b = some (.frz ob xs) → b ≠ a := fun b ob y r z => by subst z; rw [h] at r; cases r; exact f
  have ntbl : ∀ b ps, H b = some (.tbl ps) → b ≠ a := fun b y r z => by subst z; rw [h] at r; cases r; exact f
  have nn : ∀ b, H b = none → upd H a (.frz o u) b = none := fun b n => by
    rw [upd_ne (fun z => by subst z; rw [h] at n; cases n)]
    exact n
  refine ⟨o, I.ok, I.os, I.bare, ⟨I.base.keep, I.base.slot, fun b ob e n hx => nn b (I.base.free b ob e n hx), I.base.there, fun b xs e => ?_, fun b ob xs e => ?_, fun b ps e => ?_⟩, I.loc, I.cell, nn _ I.free, fun x c e => nn c (I.freeC x c e), fun p hp => ?_, fun b w e => ?_, I.len⟩
  · have := I.base.tups b xs e
    rw [upd_ne (ntup b xs this)]; exact this
  · have := I.base.frzs b ob xs e
    rw [upd_ne (nfrz b ob xs this)]; exact this
  · obtain ⟨more, this⟩ := I.base.tbls b ps e
    exact ⟨more, by rw [upd_ne (ntbl b _ this)]; exact this⟩
  · obtain ⟨e, n, r⟩ := I.pin p hp
    exact ⟨e, nn _ n, r⟩
  · by_cases q : b = a
    · subst q
      rw [upd_same] at e
      cases e
      exact ⟨ho, ok.stay (fun c v _ z => z) (fun c z => by rw [upd_ne (nown c b z)]; exact z) fun c xs z => by rw [upd_ne (ntup c xs z)]; exact z⟩
    · rw [upd_ne q] at e
      exact (I.hok b w e).stay (fun c v _ z => z) (fun c z => by rw [upd_ne (nown c b z)]; exact z) fun c xs z => by rw [upd_ne (ntup c xs z)]; exact z
end
/-- what is wanted of a value that may be frozen -/
def FQ (Q : VK) : VK := fun v H => (∃ a u, v = .ref a ∧ H a = some u ∧ Frz u ∧ ∀ o, Q v (upd H a (.frz o u))) ∨ Q v H
theorem FQ.ep {X : Cx} {pins : List (Addr × Obj)} {σ : L2.St} {Q : VK} {u : Value} {s : Shared} (h : EP X pins σ (FQ Q) u s) : EP X pins σ Q u s := by
  obtain ⟨v, H, I, r, q⟩ := h
  rcases q with ⟨a, w, rfl, e, f, q⟩ | q
  · obtain ⟨o, I'⟩ := freeze I e f
    exact ⟨_, _, I', r, q o⟩
  · exact ⟨v, H, I, r, q⟩
theorem pe_frz {X : Cx} {e : Expr} {t : TE} (h : PE X e t) : PE X e (fun σ H Q => t σ H (FQ Q)) :=
  ⟨fun pins s σ H Q I q => thn (h.run pins s σ H _ I q) fun _ _ z => FQ.ep z⟩

section
variable {k : Nat} {X : Cx} {G : Glo} {W : WX} {a b c : Expr} {fa fb fc : EF} {ta tb : TF} {pos : Pos} {es : List Expr} {fs : AF}
theorem RS.ext {σ : L2.St} {H H' : Hp} {δ : Sl} {μ μ' : MH} {ι ι' : List Addr} (h : RS G σ H δ μ ι) (x : Ext H H') (p : ι <+: ι') (hs : HS G H' μ' ι') : RS G σ H' δ μ' ι' :=
  ⟨hs, h.ln, fun i d e => let ⟨v, e1, r⟩ := h.sl i d e; ⟨v, e1, DV.mono x p _ _ r⟩⟩
/-- a new list is handed on as one that never changes -/
theorem RR.newL {σ : L2.St} {δ : Sl} {H : Hp} {ι : List Addr} {l : List D} {vs : List V} {μ : MH} {Q : VK} {p : Addr} (h : RR G W σ δ (DV G) H ι (.ok (.lst l) μ) Q) (rs : RS G σ H δ μ ι) (hp : H p = none) (hv : DVs G H ι l vs) : FQ Q (.ref p) (upd H p (.lst vs)) := by
  refine .inl ⟨p, .lst vs, rfl, upd_same, trivial, fun o => ?_⟩
  rw [upd_upd]
  exact h.new rs hp ⟨p, vs, rfl, .inl ⟨o, upd_same⟩, DVs.mono (Ext.upd_free hp) (List.prefix_refl _) _ _ hv⟩
/-- a new mutable object -/
theorem RR.newM {σ : L2.St} {δ : Sl} {H : Hp} {ι : List Addr} {m : MO} {μ : MH} {Q : VK} {p : Addr} {o : HO} (h : RR G W σ δ (DV G) H ι (.ok (.ref μ.length) (μ ++ [some m])) Q) (rs : RS G σ H δ μ ι) (hp : H p = none) (hm : MV G (upd H p o) (ι ++ [p]) p m) : Q (.ref p) (upd H p o) := by
  refine h _ _ (ι ++ [p]) (Ext.upd_free hp) (List.prefix_append _ _) (rs.ext (Ext.upd_free hp) (List.prefix_append _ _) (rs.hs.alloc hp o hm)) ⟨p, ?_, rfl⟩
  rw [← rs.hs.ln]
  simp
@[simp] def eLst (g : AF) : EF := fun δ μ => (g δ μ).bind fun l μ => if l.length ≤ sizeLine then .ok (.lst l) μ else .no
theorem de_lst (h : DA k X G W es fs) : DE k X G W (.List es pos) (eLst fs) := fun cc =>
  peI (pe_frz (pe_lst (h cc))) fun σ H Q ⟨δ, μ, ι, rs, q⟩ => ⟨δ, μ, ι, rs, RR.bnd q fun l μ1 xs H1 ι1 x1 p1 rs1 dl q => by
    by_cases hl : l.length ≤ sizeLine
    · rw [if_pos hl] at q
      exact ⟨by rw [← dl.length]; exact hl, fun p hp => q.newL rs1 hp dl⟩
    · rw [if_neg hl] at q
      exact q.elim⟩
/-- a list that will change -/
@[simp] def eLstM (g : AF) : EF := fun δ μ => (g δ μ).bind fun l μ => if l.length ≤ sizeLine then .ok (.ref μ.length) (μ ++ [some (.lst l)]) else .no
theorem de_lstM (h : DA k X G W es fs) : DE k X G W (.List es pos) (eLstM fs) := fun cc =>
  peI (pe_lst (h cc)) fun σ H Q ⟨δ, μ, ι, rs, q⟩ => ⟨δ, μ, ι, rs, RR.bnd q fun l μ1 xs H1 ι1 x1 p1 rs1 dl q => by
    by_cases hl : l.length ≤ sizeLine
    · rw [if_pos hl] at q
      refine ⟨by rw [← dl.length]; exact hl, fun p hp => q.newM rs1 hp ⟨xs, upd_same, DVs.mono (Ext.upd_free hp) (List.prefix_append _ _) _ _ dl⟩⟩
    · rw [if_neg hl] at q
      exact q.elim⟩
/-- a mutable list or dict is handed on as one that never changes -/
@[simp] def frzD : D → MH → R D := fun d μ => match d with
  | .ref n => match μ[n]? with
    | some (some (.lst l)) => .ok (.lst l) (μ.set n none)
    | some (some (.dic t ks vs)) => .ok (.dic t ks vs) (μ.set n none)
    | _ => .no
  | d => .ok d μ
@[simp] def eFz (f : EF) : EF := fun δ μ => (f δ μ).bind frzD
theorem frz_read {σ : L2.St} {δ : Sl} {H : Hp} {ι : List Addr} {d : D} {v : V} {μ : MH} {Q : VK} (rs : RS G σ H δ μ ι) (dx : DV G H ι d v) (q : RR G W σ δ (DV G) H ι (frzD d μ) Q) : FQ Q v H := by
  cases d with
  | ref n =>
    obtain ⟨a, ea, rfl⟩ := dx
    unfold frzD at q
    cases e : (μ[n]? : Option (Option MO)) with
    | none => simp only [e] at q; exact q.elim
    | some om =>
      cases om with
      | none => simp only [e] at q; exact q.elim
      | some m =>
        have mv := rs.hs.there e ea
        obtain ⟨u0, eu0, cu⟩ := mv.chg
        cases m with
        | ins c ds => simp only [e] at q; exact q.elim
        | lst l =>
          simp only [e] at q
          obtain ⟨vs, e1, r⟩ := mv
          refine .inl ⟨a, _, rfl, e1, trivial, fun o => ?_⟩
          have x : Ext H (upd H a (.frz o (.lst vs))) := Ext.upd_chg e1 trivial
          exact q _ _ ι x (List.prefix_refl _) (rs.ext x (List.prefix_refl _) (rs.hs.frz e ea _)) ⟨a, vs, rfl, .inl ⟨o, upd_same⟩, DVs.mono x (List.prefix_refl _) _ _ r⟩
        | dic t ks vs =>
          simp only [e] at q
          cases t with
          | false =>
            obtain ⟨kvs, e1, r1, r2⟩ := mv
            refine .inl ⟨a, _, rfl, e1, trivial, fun o => ?_⟩
            have x : Ext H (upd H a (.frz o (.dK kvs))) := Ext.upd_chg e1 trivial
            exact q _ _ ι x (List.prefix_refl _) (rs.ext x (List.prefix_refl _) (rs.hs.frz e ea _)) ⟨a, o, rfl, kvs, upd_same, DVs.mono x (List.prefix_refl _) _ _ r1, DVs.mono x (List.prefix_refl _) _ _ r2⟩
          | true =>
            obtain ⟨xs, ws, e1, z, r1, r2, r3⟩ := mv
            refine .inl ⟨a, _, rfl, e1, trivial, fun o => ?_⟩
            have x : Ext H (upd H a (.frz o (DN G a xs))) := Ext.upd_chg e1 trivial
            exact q _ _ ι x (List.prefix_refl _) (rs.ext x (List.prefix_refl _) (rs.hs.frz e ea _)) ⟨a, o, rfl, xs, ws, upd_same, z, DVs.mono x (List.prefix_refl _) _ _ r1, r2, DVs.mono x (List.prefix_refl _) _ _ r3⟩
  | _ => exact .inr (q.now rs dx)
theorem de_fz {e : Expr} {f : EF} (h : DE k X G W e f) : DE k X G W e (eFz f) := fun cc =>
  peI (pe_frz (h cc)) fun σ H Q ⟨δ, μ, ι, rs, q⟩ => ⟨δ, μ, ι, rs, RR.bnd q fun d μ1 v H1 ι1 x1 p1 rs1 dx q => frz_read rs1 dx q⟩

/-! ### views -/
@[simp] def seqOf (μ : MH) : D → Option (List D)
  | .tup l | .lst l => some l
  | .ref n => match μ[n]? with
    | some (some (.lst l)) => some l
    | _ => none
  | _ => none
@[simp] def dicOf (μ : MH) : D → Option (Bool × List D × List D)
  | .dic t ks vs => some (t, ks, vs)
  | .ref n => match μ[n]? with
    | some (some (.dic t ks vs)) => some (t, ks, vs)
    | _ => none
  | _ => none
theorem seq_view {σ : L2.St} {δ : Sl} {H : Hp} {ι : List Addr} {d : D} {v : V} {μ : MH} {l : List D} (rs : RS G σ H δ μ ι) (dx : DV G H ι d v) (h : seqOf μ d = some l) :
    ∃ a vs, v = .ref a ∧ (SqL G.K H a vs ∨ SqT G.K H a vs) ∧ DVs G H ι l vs := by
  cases d with
  | tup l' =>
    obtain ⟨a, vs, e, s, r⟩ := dx
    cases h
    exact ⟨a, vs, e, .inr s, r⟩
  | lst l' =>
    obtain ⟨a, vs, e, s, r⟩ := dx
    cases h
    exact ⟨a, vs, e, .inl s.seq, r⟩
  | ref n =>
    obtain ⟨a, ea, rfl⟩ := dx
    simp only [seqOf] at h
    cases e : (μ[n]? : Option (Option MO)) with
    | none => simp [e] at h
    | some om =>
      cases om with
      | none => simp [e] at h
      | some m =>
        cases m with
        | lst l' =>
          simp only [e, Option.some.injEq] at h
          subst h
          obtain ⟨vs, e1, r⟩ := rs.hs.there e ea
          exact ⟨a, vs, rfl, .inl (SqL.of e1), r⟩
        | _ => simp [e] at h
  | _ => simp [seqOf] at h
/-- a dict, as it stands -/
def DicAt (G : Glo) (H : Hp) (ι : List Addr) (a : Addr) (t : Bool) (ks vs : List D) : Prop :=
  match t with
  | false => ∃ kvs, Rd H a (.dK kvs) ∧ DVs G H ι ks (kvs.map fun p => kV p.1) ∧ DVs G H ι vs (kvs.map (·.2))
  | true => ∃ xs ws, Rd H a (DN G a xs) ∧ ks.map nk = xs.map (fun x => some x.1) ∧ DVs G H ι ks (xs.map fun x => .ref x.2.1) ∧ Vals ws (xs.map (·.2.2)) ∧ DVs G H ι vs ws
theorem dic_view {σ : L2.St} {δ : Sl} {H : Hp} {ι : List Addr} {d : D} {v : V} {μ : MH} {t : Bool} {ks vs : List D} (rs : RS G σ H δ μ ι) (dx : DV G H ι d v) (h : dicOf μ d = some (t, ks, vs)) :
    ∃ a, v = .ref a ∧ DicAt G H ι a t ks vs := by
  cases d with
  | dic t' ks' vs' =>
    cases h
    cases t with
    | false => obtain ⟨a, o, e, kvs, s, r⟩ := dx; exact ⟨a, e, kvs, .inr ⟨o, s⟩, r⟩
    | true => obtain ⟨a, o, e, xs, ws, s, r⟩ := dx; exact ⟨a, e, xs, ws, .inr ⟨o, s⟩, r⟩
  | ref n =>
    obtain ⟨a, ea, rfl⟩ := dx
    simp only [dicOf] at h
    cases e : (μ[n]? : Option (Option MO)) with
    | none => simp [e] at h
    | some om =>
      cases om with
      | none => simp [e] at h
      | some m =>
        cases m with
        | dic t' ks' vs' =>
          simp only [e, Option.some.injEq] at h
          cases h
          have mv := rs.hs.there e ea
          cases t with
          | false => obtain ⟨kvs, s, r⟩ := mv; exact ⟨a, rfl, kvs, .inl s, r⟩
          | true => obtain ⟨xs, ws, s, r⟩ := mv; exact ⟨a, rfl, xs, ws, .inl s, r⟩
        | _ => simp [e] at h
  | _ => simp [dicOf] at h

/-! ### keys -/
theorem DV.int_inv {H : Hp} {ι : List Addr} {d : D} {i : Int} (h : DV G H ι d (.int i)) : d = .int i := by
  cases d with
  | dic t _ _ => cases t <;> (simp only [DV] at h; obtain ⟨a, o, e, _⟩ := h; cases e)
  | int j => simp only [DV, V.int.injEq] at h; rw [h]
  | _ => simp [DV] at h
theorem DV.str_inv {H : Hp} {ι : List Addr} {d : D} {i : Str} (h : DV G H ι d (.str i)) : d = .str i := by
  cases d with
  | dic t _ _ => cases t <;> (simp only [DV] at h; obtain ⟨a, o, e, _⟩ := h; cases e)
  | str j => simp only [DV, V.str.injEq] at h; rw [h]
  | _ => simp [DV] at h
mutual
theorem nk_is {pins : List (Addr × Obj)} {s : Shared} {σ : L2.St} {H : Hp} {ι : List Addr} (hK : X.K = G.K) (I : Inv X pins σ H s) : ∀ (d : D) (v : V) (u : Value) (q : NestedKey), DV G H ι d v → RelV v u → nk d = some q → NestedIs s.heap q u
  | .non, _, _, _, h, r, e => by
    cases h; cases r
    simp only [nk, Option.some.injEq] at e; subst e
    exact .none
  | .bl b, _, _, _, h, r, e => by
    cases h; cases r
    simp only [nk, Option.some.injEq] at e; subst e
    exact .bool rfl
  | .int i, _, _, _, h, r, e => by
    cases h; obtain ⟨t, rfl⟩ := r
    simp only [nk, Option.some.injEq] at e; subst e
    exact .int _ _
  | .str x, _, _, _, h, r, e => by
    cases h; obtain ⟨t, rfl⟩ := r
    simp only [nk, Option.some.injEq] at e; subst e
    exact .text _ _
  | .tup l, _, _, _, ⟨a, vs, e1, sq, rl⟩, r, e => by
    subst e1; cases r
    simp only [nk, Option.map_eq_some_iff] at e
    obtain ⟨qs, e, rfl⟩ := e
    obtain ⟨its, rv, ⟨o, ho, hc, n, hd⟩, _⟩ := I.tuple (xs := vs) (by rw [hK]; exact sq)
    refine .tup ho hc hd ?_
    simpa using nks_is hK I l vs its qs rl rv e
  | .lst _, _, _, _, _, _, e | .dic _ _ _, _, _, _, _, _, e | .obj _ _, _, _, _, _, _, e | .fn _, _, _, _, _, _, e | .ref _, _, _, _, _, _, e | .exn _ _, _, _, _, _, _, e => by simp [nk] at e
theorem nks_is {pins : List (Addr × Obj)} {s : Shared} {σ : L2.St} {H : Hp} {ι : List Addr} (hK : X.K = G.K) (I : Inv X pins σ H s) : ∀ (l : List D) (vs : List V) (us : List Value) (qs : List NestedKey), DVs G H ι l vs → Vals vs us → nks l = some qs → NestedAll s.heap qs us
  | [], _, _, _, h, r, e => by
    cases h; cases r
    simp only [nks, Option.some.injEq] at e; subst e
    exact .nil
  | d :: l, _, _, _, ⟨v, vr, e1, h, t⟩, r, e => by
    subst e1
    cases r with
    | cons r1 r2 =>
      simp only [nks] at e
      cases e2 : nk d with
      | none => simp [e2] at e
      | some q =>
        cases e3 : nks l with
        | none => simp [e2, e3] at e
        | some qs =>
          simp only [e2, e3, Option.some.injEq] at e
          subst e
          exact .cons (nk_is hK I d v _ q h r1 e2) (nks_is hK I l vr _ qs t r2 e3)
end
/-- a key that a dict of the sort t may be asked for -/
@[simp] def keyOf (t : Bool) (d : D) : Option NestedKey := match t, d with
  | true, .tup l => match nk (.tup l) with
    | some q => if q.depth ≤ 8 then some q else none
    | none => none
  | false, .int i => some (.num i)
  | false, .str x => some (.text x)
  | _, _ => none
def dlook (q : NestedKey) : List D → List D → Option D
  | a :: ks, v :: vs => if nk a = some q then some v else dlook q ks vs
  | _, _ => none
def dputv (q : NestedKey) (x : D) : List D → List D → List D
  | a :: ks, v :: vs => (if nk a = some q then x else v) :: dputv q x ks vs
  | _, vs => vs
/-- the keys and values behind d[key] = x -/
def dput (q : NestedKey) (key x : D) (ks vs : List D) : List D × List D := if (dlook q ks vs).isSome then (ks, dputv q x ks vs) else (ks ++ [key], vs ++ [x])
def keyK : NestedKey → Option Key
  | .num i => some (.inl i)
  | .text x => some (.inr x)
  | _ => none
theorem look_dK {H : Hp} {ι : List Addr} {q : NestedKey} {key : Key} (hq : keyK q = some key) : ∀ {ks vs : List D} {kvs : List (Key × V)}, DVs G H ι ks (kvs.map fun p => kV p.1) → DVs G H ι vs (kvs.map (·.2)) →
    (∃ d v, dlook q ks vs = some d ∧ valV kvs key = some v ∧ DV G H ι d v) ∨ (dlook q ks vs = none ∧ valV kvs key = none)
  | [], _, [], _, _ => .inr ⟨rfl, rfl⟩
  | [], _, p :: kvs, h, _ => by cases h
  | a :: ks, _, [], ⟨_, _, e, _, _⟩, _ => by cases e
  | a :: ks, [], p :: kvs, _, h => by cases h
  | a :: ks, v :: vs, p :: kvs, ⟨_, _, e, h1, h2⟩, ⟨w, _, e', g1, g2⟩ => by
    cases e; cases e'
    have ih := look_dK hq (kvs := kvs) h2 g2
    have key_iff : nk a = some q ↔ p.1 = key := by
      obtain ⟨p1, p2⟩ := p
      cases p1 with
      | inl i =>
        obtain rfl := DV.int_inv h1
        cases q <;> simp only [keyK, Option.some.injEq, reduceCtorEq] at hq
        · subst hq; simp [nk]
        · subst hq; simp [nk]
      | inr x =>
        obtain rfl := DV.str_inv h1
        cases q <;> simp only [keyK, Option.some.injEq, reduceCtorEq] at hq
        · subst hq; simp [nk]
        · subst hq; simp [nk]
    unfold dlook
    by_cases e : nk a = some q
    · rw [if_pos e, valV_pos (key_iff.mp e)]
      exact .inl ⟨v, p.2, rfl, rfl, g1⟩
    · rw [if_neg e, valV_neg (fun z => e (key_iff.mpr z))]
      exact ih
end
end SZ
end
section
/-! SZ, part D: dicts read and written, ==, in, len. -/
namespace SZ
open PySem PySem.Spec PyProof.Rows L2
section
variable {k : Nat} {X : Cx} {G : Glo} {W : WX} {a b c : Expr} {fa fb fc : EF} {ta tb : TF} {pos : Pos} {es : List Expr} {fs : AF}
variable {pins : List (Addr × Obj)} {s : Shared} {σ : L2.St} {H : Hp} {ι : List Addr} {ad : Addr}

theorem put_dK {q : NestedKey} {key : Key} (hq : keyK q = some key) {kd x : D} {y : V} (hk : DV G H ι kd (kV key)) (hx : DV G H ι x y) {ks vs : List D} {kvs : List (Key × V)} (h1 : DVs G H ι ks (kvs.map fun p => kV p.1)) (h2 : DVs G H ι vs (kvs.map (·.2))) :
    DVs G H ι (dput q kd x ks vs).1 ((putK kvs key y).map fun p => kV p.1) ∧ DVs G H ι (dput q kd x ks vs).2 ((putK kvs key y).map (·.2)) := by
  have rep : ∀ {ks vs : List D} {kvs : List (Key × V)}, DVs G H ι ks (kvs.map fun p => kV p.1) → DVs G H ι vs (kvs.map (·.2)) →
      DVs G H ι ks ((kvs.map fun kv => if kv.1 = key then (kv.1, y) else kv).map fun p => kV p.1) ∧ DVs G H ι (dputv q x ks vs) ((kvs.map fun kv => if kv.1 = key then (kv.1, y) else kv).map (·.2)) := by
    intro ks
    induction ks with
    | nil =>
      intro vs kvs h1 h2
      cases kvs with
      | nil => cases vs with
        | nil => exact ⟨rfl, rfl⟩
        | cons v vs => obtain ⟨_, _, e, _⟩ := h2; cases e
      | cons p kvs => cases h1
    | cons a ks ih =>
      intro vs kvs h1 h2
      cases kvs with
      | nil => obtain ⟨_, _, e, _⟩ := h1; cases e
      | cons p kvs =>
        cases vs with
        | nil => cases h2
        | cons v vs =>
          obtain ⟨_, _, e, h1, t1⟩ := h1
          cases e
          obtain ⟨_, _, e, h2, t2⟩ := h2
          cases e
          obtain ⟨i1, i2⟩ := ih t1 t2
          have ki : nk a = some q ↔ p.1 = key := by
            obtain ⟨p1, p2⟩ := p
            cases p1 with
            | inl i =>
              obtain rfl := DV.int_inv h1
              cases q <;> simp only [keyK, Option.some.injEq, reduceCtorEq] at hq <;> (subst hq; simp [nk])
            | inr x =>
              obtain rfl := DV.str_inv h1
              cases q <;> simp only [keyK, Option.some.injEq, reduceCtorEq] at hq <;> (subst hq; simp [nk])
          by_cases e : nk a = some q
          · have e' := ki.mp e
            simp only [List.map_cons, dputv, if_pos e, if_pos e']
            exact ⟨⟨_, _, rfl, h1, i1⟩, ⟨_, _, rfl, hx, i2⟩⟩
          · have e' : ¬ p.1 = key := fun z => e (ki.mpr z)
            simp only [List.map_cons, dputv, if_neg e, if_neg e']
            exact ⟨⟨_, _, rfl, h1, i1⟩, ⟨_, _, rfl, h2, i2⟩⟩
  unfold dput putK
  have any := valV_any key kvs
  rcases look_dK hq h1 h2 with ⟨d, v, e1, e2, _⟩ | ⟨e1, e2⟩
  · rw [any, e2, e1]
    simp only [Option.isSome_some, if_true]
    exact rep h1 h2
  · rw [any, e2, e1]
    simp only [Option.isSome_none, Bool.false_eq_true, if_false, List.map_append, List.map_cons, List.map_nil]
    exact ⟨h1.append (.cons hk rfl), h2.append (.cons hx rfl)⟩

theorem look_DN {q : NestedKey} : ∀ {ks vs : List D} {xs : List (NestedKey × Addr × Value)} {ws : List V}, ks.map nk = xs.map (fun x => some x.1) → Vals ws (xs.map (·.2.2)) → DVs G H ι vs ws →
    (∃ d w p, dlook q ks vs = some d ∧ atKey xs q = some p ∧ RelV w p.2 ∧ DV G H ι d w) ∨ (dlook q ks vs = none ∧ atKey xs q = none)
  | [], _, [], _, _, _, _ => .inr ⟨rfl, rfl⟩
  | [], _, p :: xs, _, h, _, _ => by cases h
  | a :: ks, _, [], _, h, _, _ => by cases h
  | a :: ks, vs, x :: xs, ws, h, r, g => by
    cases r with
    | cons r1 r2 =>
      rename_i w ws
      cases vs with
      | nil => cases g
      | cons v vs =>
        obtain ⟨_, _, e, g1, g2⟩ := g
        cases e
        simp only [List.map_cons, List.cons.injEq] at h
        have ih := look_DN (q := q) h.2 r2 g2
        unfold dlook
        rw [h.1]
        by_cases e : x.1 = q
        · subst e
          rw [if_pos rfl]
          exact .inl ⟨v, w, x.2, rfl, by simp [atKey, List.find?_cons], r1, g1⟩
        · rw [if_neg (fun z => e (Option.some.inj z))]
          have : atKey (x :: xs) q = atKey xs q := by simp [atKey, List.find?_cons, e]
          rw [this]
          exact ih
theorem put_DN {q : NestedKey} {kd x : D} {y : V} {bk : Addr} {u : Value} (hn : nk kd = some q) (hk : DV G H ι kd (.ref bk)) (hx : DV G H ι x y) (ry : RelV y u) {ks vs : List D} {xs : List (NestedKey × Addr × Value)} {ws : List V}
    (h : ks.map nk = xs.map (fun x => some x.1)) (h1 : DVs G H ι ks (xs.map fun x => .ref x.2.1)) (r : Vals ws (xs.map (·.2.2))) (h2 : DVs G H ι vs ws) :
    (dput q kd x ks vs).1.map nk = (storedH xs q bk u).map (fun x => some x.1) ∧ DVs G H ι (dput q kd x ks vs).1 ((storedH xs q bk u).map fun x => .ref x.2.1) ∧ ∃ ws', Vals ws' ((storedH xs q bk u).map (·.2.2)) ∧ DVs G H ι (dput q kd x ks vs).2 ws' := by
  have rep : ∀ {ks vs : List D} {xs : List (NestedKey × Addr × Value)} {ws : List V}, ks.map nk = xs.map (fun x => some x.1) → Vals ws (xs.map (·.2.2)) → DVs G H ι vs ws →
      (xs.map (putAt q u)).map (fun x => (some x.1 : Option NestedKey)) = xs.map (fun x => some x.1) ∧ ((xs.map (putAt q u)).map fun x => V.ref x.2.1) = (xs.map fun x => V.ref x.2.1) ∧ ∃ ws', Vals ws' ((xs.map (putAt q u)).map (·.2.2)) ∧ DVs G H ι (dputv q x ks vs) ws' := by
    intro ks
    induction ks with
    | nil =>
      intro vs xs ws h r g
      cases xs with
      | nil =>
        cases r
        cases vs with
        | nil => exact ⟨rfl, rfl, [], .nil, rfl⟩
        | cons v vs => obtain ⟨_, _, e, _⟩ := g; cases e
      | cons p xs => cases h
    | cons a ks ih =>
      intro vs xs ws h r g
      cases xs with
      | nil => cases h
      | cons p xs =>
        cases r with
        | cons r1 r2 =>
          rename_i w ws
          cases vs with
          | nil => cases g
          | cons v vs =>
            obtain ⟨_, _, e, g1, g2⟩ := g
            cases e
            simp only [List.map_cons, List.cons.injEq] at h
            obtain ⟨i1, i2, ws', i3, i4⟩ := ih h.2 r2 g2
            by_cases e : p.1 = q
            · have e2 : nk a = some q := by rw [h.1, e]
              refine ⟨?_, ?_, y :: ws', ?_, ?_⟩
              · simp only [List.map_cons, i1]; simp [putAt, e]
              · simp only [List.map_cons, i2]; simp [putAt, e]
              · simp only [List.map_cons]
                exact .cons (by simpa [putAt, e] using ry) i3
              · simp only [dputv, if_pos e2]
                exact ⟨_, _, rfl, hx, i4⟩
            · have e2 : ¬ nk a = some q := fun z => e (by rw [h.1] at z; exact Option.some.inj z)
              refine ⟨?_, ?_, w :: ws', ?_, ?_⟩
              · simp only [List.map_cons, i1]; simp [putAt, e]
              · simp only [List.map_cons, i2]; simp [putAt, e]
              · simp only [List.map_cons]
                exact .cons (by simpa [putAt, e] using r1) i3
              · simp only [dputv, if_neg e2]
                exact ⟨_, _, rfl, g1, i4⟩
  unfold dput
  rcases look_DN (q := q) h r h2 with ⟨d, w, p, e1, e2, _⟩ | ⟨e1, e2⟩
  · rw [storedH_old e2, e1]
    simp only [Option.isSome_some, if_true]
    obtain ⟨i1, i2, i3⟩ := rep h r h2
    exact ⟨h.trans i1.symm, by rw [i2]; exact h1, i3⟩
  · rw [storedH_new e2, e1]
    simp only [Option.isSome_none, Bool.false_eq_true, if_false, List.map_append, List.map_cons, List.map_nil]
    refine ⟨by rw [h, hn], h1.append (.cons hk rfl), ws ++ [y], r.append (.cons ry .nil), h2.append (.cons hx rfl)⟩

theorem dn_rd {P : Program} {w : World} {h : Heap} {xs : List (NestedKey × Addr × Value)} (ok : HOk P w H h) (e : Rd H ad (DN G ad xs)) : DNp G ad xs h := by
  have x := e.ok ok
  exact x.1
theorem dn_of (hK : X.K = G.K) (I : Inv X pins σ H s) {ks : List D} {xs : List (NestedKey × Addr × Value)} (e : Rd H ad (DN G ad xs)) (h : ks.map nk = xs.map (fun x => some x.1)) (h1 : DVs G H ι ks (xs.map fun x => .ref x.2.1)) :
    (ad == sysModules) = false ∧ xs.length ≤ sizeLine ∧ s.heap.DictOfH (nestedKind G.P G.w) ad xs := by
  obtain ⟨z, hl, hd, o, es, ep, ho, hx, hdt, he, hn⟩ := dn_rd I.hok e
  refine ⟨z, hl, o, es, ep, ho, hx, hdt, he, fun x hm => ⟨?_, hd x hm⟩, hn⟩
  obtain ⟨i, hi⟩ := List.mem_iff_getElem?.mp hm
  have e1 : (ks.map nk)[i]? = some (some x.1) := by rw [h, List.getElem?_map, hi]; rfl
  rw [List.getElem?_map, Option.map_eq_some_iff] at e1
  obtain ⟨d, hd1, hd2⟩ := e1
  obtain ⟨v, hv, r⟩ := h1.get hd1
  rw [List.getElem?_map, hi] at hv
  cases hv
  exact nk_is hK I d _ _ x.1 r rfl hd2
theorem key_tup (hK : X.K = G.K) (I : Inv X pins σ H s) {kd : D} {y : V} {u : Value} {q : NestedKey} (hq : keyOf true kd = some q) (dk : DV G H ι kd y) (r : RelV y u) : ∃ bk, y = .ref bk ∧ u = .ref bk ∧ nk kd = some q ∧ (nestedKind G.P G.w).is s.heap q bk := by
  cases kd with
  | tup l =>
    obtain ⟨bk, vs, e, sq, rl⟩ := id dk
    subst e
    cases r
    simp only [keyOf] at hq
    cases e : nk (.tup l) with
    | none => simp [e] at hq
    | some q' =>
      simp only [e] at hq
      by_cases hd : q'.depth ≤ 8
      · rw [if_pos hd] at hq
        cases hq
        exact ⟨bk, rfl, rfl, rfl, nk_is hK I _ _ _ _ dk rfl e, hd⟩
      · rw [if_neg hd] at hq; cases hq
  | _ => simp [keyOf] at hq
theorem key_scal {kd : D} {y : V} {q : NestedKey} (hq : keyOf false kd = some q) (dk : DV G H ι kd y) : ∃ key, keyK q = some key ∧ y = kV key ∧ nk kd = some q := by
  cases kd with
  | int i => cases hq; exact ⟨.inl i, rfl, dk, rfl⟩
  | str x => cases hq; exact ⟨.inr x, rfl, dk, rfl⟩
  | _ => simp [keyOf] at hq

variable {A : Around} {E : Value → Shared → Prop}
/-- d[key], there -/
theorem dic_get (hP : X.prog = G.P) (hw : X.w = G.w) (hK : X.K = G.K) (hu : A.units + 64 < cLine) (I : Inv X pins σ H s) {t : Bool} {ks vs : List D} {kd d : D} {y : V} {u : Value} {q : NestedKey} {Q : Value → Shared → Prop}
    (hd : DicAt G H ι ad t ks vs) (hq : keyOf t kd = some q) (dk : DV G H ι kd y) (r : RelV y u) (hl : dlook q ks vs = some d) (h : ∀ v w' s', Inv X pins σ H s' → RelV v w' → DV G H ι d v → Q w' s') :
    wpAny (model X.prog X.w) A (getItem (.ref ad) u) Q E s := by
  cases t with
  | false =>
    obtain ⟨kvs, e, h1, h2⟩ := hd
    obtain ⟨key, hk, ey, hn⟩ := key_scal hq dk
    subst ey
    rcases look_dK hk h1 h2 with ⟨d', v, e1, e2, dv⟩ | ⟨e1, e2⟩
    · rw [hl] at e1; cases e1
      exact d_getItem (by omega) I (v := v) (.inl ⟨kvs, key, e, rfl, e2.symm⟩) r fun w' s' I' rv => h v w' s' I' rv dv
    · rw [hl] at e1; cases e1
  | true =>
    obtain ⟨xs, ws, e, hn, h1, h2, h3⟩ := hd
    obtain ⟨bk, e1, e2, hnk, his⟩ := key_tup hK I hq dk r
    subst e1 e2
    obtain ⟨z, hlen, hD⟩ := dn_of hK I e hn h1
    rcases look_DN (q := q) hn h2 h3 with ⟨d', w, p, e1, e2, rw', dv⟩ | ⟨e1, e2⟩
    · rw [hl] at e1; cases e1
      rw [hP, hw]
      exact wpAny_getItem_heap (knd := nestedKind G.P G.w) (show A.in1.units + 8 < cLine by show A.units + 1 + 8 < cLine; omega) his hD e2 (h w _ _ (I.tok _) rw' dv)
    · rw [hl] at e1; cases e1
/-- key in d -/
theorem dic_in (hP : X.prog = G.P) (hw : X.w = G.w) (hK : X.K = G.K) (hu : A.units + 64 < cLine) (I : Inv X pins σ H s) {t : Bool} {ks vs : List D} {kd : D} {y : V} {u : Value} {q : NestedKey} {Q : Value → Shared → Prop}
    (hd : DicAt G H ι ad t ks vs) (hq : keyOf t kd = some q) (dk : DV G H ι kd y) (r : RelV y u) (h : ∀ s', Inv X pins σ H s' → Q (.bool (dlook q ks vs).isSome) s') :
    wpAny (model X.prog X.w) A (compareOp .In u (.ref ad)) Q E s := by
  cases t with
  | false =>
    obtain ⟨kvs, e, h1, h2⟩ := hd
    obtain ⟨key, hk, ey, hn⟩ := key_scal hq dk
    subst ey
    rcases look_dK hk h1 h2 with ⟨d', v, e1, e2, dv⟩ | ⟨e1, e2⟩ <;> rw [e1] at h
    · exact d_in (by omega) I (o := some v) (.inl ⟨kvs, key, e, rfl, e2.symm⟩) r h
    · exact d_in (by omega) I (o := none) (.inl ⟨kvs, key, e, rfl, e2.symm⟩) r h
  | true =>
    obtain ⟨xs, ws, e, hn, h1, h2, h3⟩ := hd
    obtain ⟨bk, e1, e2, hnk, his⟩ := key_tup hK I hq dk r
    subst e1 e2
    obtain ⟨z, hlen, hD⟩ := dn_of hK I e hn h1
    rw [hP, hw]
    refine wpAny_in_heap (knd := nestedKind G.P G.w) (show A.in1.units + 8 < cLine by show A.units + 1 + 8 < cLine; omega) his z hD ?_
    rcases look_DN (q := q) hn h2 h3 with ⟨d', w, p, e1, e2, rw', dv⟩ | ⟨e1, e2⟩
    · rw [e1] at h; rw [e2]
      exact h _ (I.tok _)
    · rw [e1] at h; rw [e2]
      exact h _ (I.tok _)
theorem dic_notIn (hP : X.prog = G.P) (hw : X.w = G.w) (hK : X.K = G.K) (hu : A.units + 64 < cLine) (I : Inv X pins σ H s) {t : Bool} {ks vs : List D} {kd : D} {y : V} {u : Value} {q : NestedKey} {Q : Value → Shared → Prop}
    (hd : DicAt G H ι ad t ks vs) (hq : keyOf t kd = some q) (dk : DV G H ι kd y) (r : RelV y u) (h : ∀ s', Inv X pins σ H s' → Q (.bool (!(dlook q ks vs).isSome)) s') :
    wpAny (model X.prog X.w) A (compareOp .NotIn u (.ref ad)) Q E s := by
  cases t with
  | false =>
    obtain ⟨kvs, e, h1, h2⟩ := hd
    obtain ⟨key, hk, ey, hn⟩ := key_scal hq dk
    subst ey
    rcases look_dK hk h1 h2 with ⟨d', v, e1, e2, dv⟩ | ⟨e1, e2⟩ <;> rw [e1] at h
    · exact d_notIn (by omega) I (o := some v) (.inl ⟨kvs, key, e, rfl, e2.symm⟩) r h
    · exact d_notIn (by omega) I (o := none) (.inl ⟨kvs, key, e, rfl, e2.symm⟩) r h
  | true =>
    obtain ⟨xs, ws, e, hn, h1, h2, h3⟩ := hd
    obtain ⟨bk, e1, e2, hnk, his⟩ := key_tup hK I hq dk r
    subst e1 e2
    obtain ⟨z, hlen, hD⟩ := dn_of hK I e hn h1
    rw [hP, hw]
    show wpAny _ _ (do return .bool (!(← contains (.ref ad) (.ref bk)))) Q E s
    refine wpAny_bind (wpAny_contains_heap (knd := nestedKind G.P G.w) (show A.in1.units + 8 < cLine by show A.units + 1 + 8 < cLine; omega) his z hD (wpAny_pure ?_))
    rcases look_DN (q := q) hn h2 h3 with ⟨d', w, p, e1, e2, rw', dv⟩ | ⟨e1, e2⟩
    · rw [e1] at h; rw [e2]
      exact h _ (I.tok _)
    · rw [e1] at h; rw [e2]
      exact h _ (I.tok _)
end
end SZ
end
section
/-! SZ, part E: ==, in, subscripts, slices, operators, calls of built-ins. -/
namespace SZ
open PySem PySem.Spec PyProof.Rows L2

mutual
def py : D → Option PyData
  | .non => some .none
  | .bl b => some (.bool b)
  | .int i => some (.int i)
  | .str x => some (.str x)
  | .tup l => (pys l).map .tuple
  | .lst l => (pys l).map .list
  | .dic _ _ _ | .obj _ _ | .fn _ | .ref _ | .exn _ _ | .clo _ _ => none
def pys : List D → Option (List PyData)
  | [] => some []
  | d :: l => match py d, pys l with
    | some p, some ps => some (p :: ps)
    | _, _ => none
end
mutual
theorem py_plain : ∀ (d : D) (p : PyData), py d = some p → p.plain = true
  | .non, _, h | .bl _, _, h | .int _, _, h | .str _, _, h => by simp only [py, Option.some.injEq] at h; subst h; rfl
  | .tup l, _, h | .lst l, _, h => by
    simp only [py, Option.map_eq_some_iff] at h
    obtain ⟨ps, e, rfl⟩ := h
    simp only [PyData.plain]
    exact pys_plain l ps e
  | .dic _ _ _, _, h | .obj _ _, _, h | .fn _, _, h | .ref _, _, h | .exn _ _, _, h => by simp [py] at h
theorem pys_plain : ∀ (l : List D) (ps : List PyData), pys l = some ps → PyData.plainAll ps = true
  | [], _, h => by simp only [pys, Option.some.injEq] at h; subst h; rfl
  | d :: l, _, h => by
    simp only [pys] at h
    cases e : py d with
    | none => simp [e] at h
    | some p =>
      cases e2 : pys l with
      | none => simp [e, e2] at h
      | some ps =>
        simp only [e, e2, Option.some.injEq] at h
        subst h
        simp only [PyData.plainAll]
        rw [py_plain d p e, pys_plain l ps e2]
        rfl
end
section
variable {G : Glo} {H : Hp} {ι : List Addr}
mutual
theorem dp_of : ∀ (d : D) (v : V) (p : PyData), DV G H ι d v → py d = some p → Dp G.K H v p
  | .non, _, _, h, e => by cases h; simp only [py, Option.some.injEq] at e; subst e; exact .non
  | .bl b, _, _, h, e => by cases h; simp only [py, Option.some.injEq] at e; subst e; exact .bl _
  | .int i, _, _, h, e => by cases h; simp only [py, Option.some.injEq] at e; subst e; exact .int _
  | .str x, _, _, h, e => by cases h; simp only [py, Option.some.injEq] at e; subst e; exact .str _
  | .tup l, _, _, ⟨a, vs, e1, s, r⟩, e => by
    subst e1
    simp only [py, Option.map_eq_some_iff] at e
    obtain ⟨ps, e, rfl⟩ := e
    exact .tup s (dps_of l vs ps r e)
  | .lst l, _, _, ⟨a, vs, e1, s, r⟩, e => by
    subst e1
    simp only [py, Option.map_eq_some_iff] at e
    obtain ⟨ps, e, rfl⟩ := e
    exact .lst s.seq (dps_of l vs ps r e)
  | .dic _ _ _, _, _, _, h | .obj _ _, _, _, _, h | .fn _, _, _, _, h | .ref _, _, _, _, h | .exn _ _, _, _, _, h => by simp [py] at h
theorem dps_of : ∀ (l : List D) (vs : List V) (ps : List PyData), DVs G H ι l vs → pys l = some ps → DpAll G.K H vs ps
  | [], _, _, h, e => by cases h; simp only [pys, Option.some.injEq] at e; subst e; exact .nil
  | d :: l, _, _, ⟨v, r, e1, h, t⟩, e => by
    subst e1
    simp only [pys] at e
    cases e2 : py d with
    | none => simp [e2] at e
    | some p =>
      cases e3 : pys l with
      | none => simp [e2, e3] at e
      | some ps =>
        simp only [e2, e3, Option.some.injEq] at e
        subst e
        exact .cons (dp_of d v p h e2) (dps_of l r ps t e3)
end
end
/-- as data; a mutable list by what it holds -/
@[simp] def pyM (μ : MH) : D → Option PyData
  | .ref n => match μ[n]? with
    | some (some (.lst l)) => (pys l).map .list
    | _ => none
  | d => py d
section
variable {k : Nat} {X : Cx} {G : Glo} {W : WX} {a b c : Expr} {fa fb fc : EF} {ta tb : TF} {pos : Pos} {es : List Expr} {fs : AF}
theorem pyM_dp {σ : L2.St} {δ : Sl} {H : Hp} {ι : List Addr} {d : D} {v : V} {μ : MH} {p : PyData} (rs : RS G σ H δ μ ι) (dx : DV G H ι d v) (h : pyM μ d = some p) : Dp G.K H v p ∧ p.plain = true := by
  cases d with
  | ref n =>
    obtain ⟨ad, ea, rfl⟩ := dx
    simp only [pyM] at h
    cases e : (μ[n]? : Option (Option MO)) with
    | none => simp [e] at h
    | some om =>
      cases om with
      | none => simp [e] at h
      | some m =>
        cases m with
        | lst l =>
          simp only [e, Option.map_eq_some_iff] at h
          obtain ⟨ps, e2, rfl⟩ := h
          obtain ⟨vs, e1, r⟩ := rs.hs.there e ea
          exact ⟨.lst (SqL.of e1) (dps_of _ _ _ r e2), pys_plain _ _ e2⟩
        | _ => simp [e] at h
  | _ => exact ⟨dp_of _ _ _ dx h, py_plain _ _ h⟩
@[simp] def eqD (neg : Bool) (x y : D) (μ : MH) : R D := match pyM μ x, pyM μ y with
  | some p, some q => if min p.depth q.depth ≤ 64 then .ok (.bl (if neg then !PyData.eqv p q else PyData.eqv p q)) μ else .no
  | _, _ => .no
theorem od_eq : OpD k X G W (compareOp .Eq) (eqD false) := fun cc pins s σ H δ μ ι d e x y v u Q I rx ry rs dx dy q => by
  unfold eqD at q
  cases h1 : pyM μ d with
  | none => simp only [h1] at q; exact q.elim
  | some p =>
    cases h2 : pyM μ e with
    | none => simp only [h1, h2] at q; exact q.elim
    | some p' =>
      simp only [h1, h2] at q
      by_cases hd : min p.depth p'.depth ≤ 64
      · rw [if_pos hd] at q
        obtain ⟨g1, g2⟩ := pyM_dp rs dx h1
        obtain ⟨g3, g4⟩ := pyM_dp rs dy h2
        rw [← cc.hK] at g1 g3
        obtain ⟨as, r1⟩ := Dp.reads I p x v g1 rx
        obtain ⟨bs, r2⟩ := Dp.reads I p' y u g3 ry
        have hu := cc.room.units
        exact SeqAt.eq_plain r1 r2 g2 g4 (by omega) ⟨.bl _, H, I, rfl, q.now rs rfl⟩
      · rw [if_neg hd] at q; exact q.elim
theorem od_ne : OpD k X G W (compareOp .NotEq) (eqD true) := fun cc pins s σ H δ μ ι d e x y v u Q I rx ry rs dx dy q => by
  unfold eqD at q
  cases h1 : pyM μ d with
  | none => simp only [h1] at q; exact q.elim
  | some p =>
    cases h2 : pyM μ e with
    | none => simp only [h1, h2] at q; exact q.elim
    | some p' =>
      simp only [h1, h2] at q
      by_cases hd : min p.depth p'.depth ≤ 64
      · rw [if_pos hd] at q
        obtain ⟨g1, g2⟩ := pyM_dp rs dx h1
        obtain ⟨g3, g4⟩ := pyM_dp rs dy h2
        rw [← cc.hK] at g1 g3
        obtain ⟨as, r1⟩ := Dp.reads I p x v g1 rx
        obtain ⟨bs, r2⟩ := Dp.reads I p' y u g3 ry
        have hu := cc.room.units
        exact SeqAt.ne_plain r1 r2 g2 g4 (by omega) ⟨.bl _, H, I, rfl, q.now rs rfl⟩
      · rw [if_neg hd] at q; exact q.elim
/-- is None, is not None -/
@[simp] def isN (neg : Bool) (x y : D) (μ : MH) : R D := match y with
  | .non => .ok (.bl (match x with
    | .non => !neg
    | _ => neg)) μ
  | _ => .no
theorem non_iff {H : Hp} {ι : List Addr} {d : D} {x : V} (h : DV G H ι d x) : (x = .non) ↔ d = .non := by
  constructor
  · intro e
    subst e
    cases d with
    | dic t _ _ => cases t <;> (simp only [DV] at h; obtain ⟨a, o, e, _⟩ := h; cases e)
    | non => rfl
    | _ => simp [DV] at h
  · intro e; subst e; exact h
theorem od_is : OpD k X G W (compareOp .Is) (isN false) := .of (r := fun x y H Q => y = .non ∧ Q (.bl (decide (x = .non))) H) (fun _ => op_isN) fun cc σ H δ μ ι d e x y Q rs dx dy q => by
  cases e with
  | non =>
    refine ⟨dy, q.now rs ?_⟩
    have i := non_iff dx
    cases d <;> simp_all [DV]
  | _ => exact q.elim
theorem od_isnot : OpD k X G W (compareOp .IsNot) (isN true) := .of (r := fun x y H Q => y = .non ∧ Q (.bl (!decide (x = .non))) H) (fun _ => op_notN) fun cc σ H δ μ ι d e x y Q rs dx dy q => by
  cases e with
  | non =>
    refine ⟨dy, q.now rs ?_⟩
    have i := non_iff dx
    cases d <;> simp_all [DV]
  | _ => exact q.elim

/-! ### in, not in -/
@[simp] def inD (neg : Bool) (x c : D) (μ : MH) : R D := match seqOf μ c with
  | some l => match py x, pys l with
    | some p, some ps => if min (PyData.depthAll ps) p.depth ≤ 60 then .ok (.bl (if neg then !(ps.any fun y => PyData.eqv y p) else ps.any fun y => PyData.eqv y p)) μ else .no
    | _, _ => .no
  | none => match dicOf μ c with
    | some (t, ks, vs) => match keyOf t x with
      | some q => .ok (.bl (if neg then !(dlook q ks vs).isSome else (dlook q ks vs).isSome)) μ
      | none => .no
    | none => match x, c with
      | .str z, .str y => match z.cps.toList with
        | [ch] => .ok (.bl (if neg then !decide (ch ∈ y.cps.toList) else decide (ch ∈ y.cps.toList))) μ
        | _ => .no
      | _, _ => .no
theorem in_any {neg : Bool} {o : CmpOp}
    (hl : ∀ {A : Around} {E : Value → Shared → Prop} {s : Shared} {c x : Value} {xs : List PyData} {d : PyData} {as bs : List Addr} {Q : Value → Shared → Prop}, Reads s.heap c (.list xs) as → Reads s.heap x d bs → PyData.plainAll xs = true → d.plain = true → A.units + 1 + min (PyData.depthAll xs) d.depth < cLine → Q (.bool (if neg then !(xs.any fun y => PyData.eqv y d) else xs.any fun y => PyData.eqv y d)) s → wpAny (model X.prog X.w) A (compareOp o x c) Q E s)
    (ht : ∀ {A : Around} {E : Value → Shared → Prop} {s : Shared} {c x : Value} {xs : List PyData} {d : PyData} {as bs : List Addr} {Q : Value → Shared → Prop}, Reads s.heap c (.tuple xs) as → Reads s.heap x d bs → PyData.plainAll xs = true → d.plain = true → A.units + 1 + min (PyData.depthAll xs) d.depth < cLine → Q (.bool (if neg then !(xs.any fun y => PyData.eqv y d) else xs.any fun y => PyData.eqv y d)) s → wpAny (model X.prog X.w) A (compareOp o x c) Q E s)
    (hd : ∀ {pins : List (Addr × Obj)} {s : Shared} {σ : L2.St} {H : Hp} {ι : List Addr} {ad : Addr} {A : Around} {E : Value → Shared → Prop} {t : Bool} {ks vs : List D} {kd : D} {y : V} {u : Value} {q : NestedKey} {Q : Value → Shared → Prop}, X.prog = G.P → X.w = G.w → X.K = G.K → A.units + 64 < cLine → Inv X pins σ H s →
      DicAt G H ι ad t ks vs → keyOf t kd = some q → DV G H ι kd y → RelV y u → (∀ s', Inv X pins σ H s' → Q (.bool (if neg then !(dlook q ks vs).isSome else (dlook q ks vs).isSome)) s') → wpAny (model X.prog X.w) A (compareOp o u (.ref ad)) Q E s)
    (hs : OpR X (compareOp o) (fun x y H Q => ∃ (c : Nat) (z : Str), x = .str ⟨#[c]⟩ ∧ y = .str z ∧ Q (.bl (if neg then !decide (c ∈ z.cps.toList) else decide (c ∈ z.cps.toList))) H)) :
    OpD k X G W (compareOp o) (inD neg) := fun cc pins s σ H δ μ ι d e x y v u Q I rx ry rs dx dy q => by
  have hu := cc.room.units
  unfold inD at q
  cases h1 : seqOf μ e with
  | some l =>
    simp only [h1] at q
    obtain ⟨ad, vs, rfl, sq, dl⟩ := seq_view rs dy h1
    cases h2 : py d with
    | none => simp only [h2] at q; exact q.elim
    | some p =>
      cases h3 : pys l with
      | none => simp only [h2, h3] at q; exact q.elim
      | some ps =>
        simp only [h2, h3] at q
        by_cases hdp : min (PyData.depthAll ps) p.depth ≤ 60
        · rw [if_pos hdp] at q
          have g1 := dp_of _ _ _ dx h2
          have g3 := dps_of _ _ _ dl h3
          rw [← cc.hK] at g1 g3 sq
          obtain ⟨as, r1⟩ := Dp.reads I p x v g1 rx
          rcases sq with sq | sq
          · obtain ⟨bs, r2⟩ := Dp.reads I (.list ps) _ u (.lst sq g3) ry
            exact hl r2 r1 (pys_plain _ _ h3) (py_plain _ _ h2) (by omega) ⟨.bl _, H, I, rfl, q.now rs rfl⟩
          · obtain ⟨bs, r2⟩ := Dp.reads I (.tuple ps) _ u (.tup sq g3) ry
            exact ht r2 r1 (pys_plain _ _ h3) (py_plain _ _ h2) (by omega) ⟨.bl _, H, I, rfl, q.now rs rfl⟩
        · rw [if_neg hdp] at q; exact q.elim
  | none =>
    simp only [h1] at q
    cases h2 : dicOf μ e with
    | some z =>
      obtain ⟨t, ks, vs⟩ := z
      simp only [h2] at q
      obtain ⟨ad, rfl, dd⟩ := dic_view rs dy h2
      cases h3 : keyOf t d with
      | none => simp only [h3] at q; exact q.elim
      | some kq =>
        simp only [h3] at q
        cases ry
        exact hd cc.hP cc.hw cc.hK (by omega) I dd h3 dx rx fun s' I' => ⟨.bl _, H, I', rfl, q.now rs rfl⟩
    | none =>
      simp only [h2] at q
      cases d with
      | str z =>
        cases e with
        | str yy =>
          simp only at q
          cases hz : z.cps.toList with
          | nil => simp only [hz] at q; exact q.elim
          | cons ch r =>
            cases r with
            | cons _ _ => simp only [hz] at q; exact q.elim
            | nil =>
              simp only [hz] at q
              have ez : z = ⟨#[ch]⟩ := by
                obtain ⟨arr⟩ := z
                have : arr = #[ch] := by rw [← Array.toArray_toList (xs := arr)]; exact congrArg List.toArray hz
                rw [this]
              have dx' : x = .str z := dx
              have dy' : y = .str yy := dy
              exact hs pins s σ H x y v u Q I rx ry ⟨ch, yy, by rw [dx', ez], dy', q.now rs rfl⟩
        | _ => exact q.elim
      | _ => exact q.elim
theorem od_in : OpD k X G W (compareOp .In) (inD false) := in_any (neg := false) SeqAt.in_list_data SeqAt.in_tuple_data (fun hP hw hK hu I dd hq dk r h => dic_in hP hw hK hu I dd hq dk r h) op_in_sign
theorem od_notin : OpD k X G W (compareOp .NotIn) (inD true) := in_any (neg := true) SeqAt.notIn_list_data SeqAt.notIn_tuple_data (fun hP hw hK hu I dd hq dk r h => dic_notIn hP hw hK hu I dd hq dk r h) op_notIn_sign

/-! ### ints -/
@[simp] def iOp (f : Int → Int → Int) (x y : D) (μ : MH) : R D := match x, y with
  | .int i, .int j => .ok (.int (f i j)) μ
  | _, _ => .no
@[simp] def cOp (f : Int → Int → Bool) (x y : D) (μ : MH) : R D := match x, y with
  | .int i, .int j => .ok (.bl (f i j)) μ
  | _, _ => .no
theorem od_int {f : Value → Value → Sem Value} {g : Int → Int → Int} (h : OpR X f (rI0 fun i j => .int (g i j))) : OpD k X G W f (iOp g) := .of (fun _ => h) fun cc σ H δ μ ι d e x y Q rs dx dy q => by
  cases d <;> first | exact q.elim | skip
  cases e <;> first | exact q.elim | skip
  exact ⟨_, _, dx, dy, q.now rs rfl⟩
theorem od_cmp {f : Value → Value → Sem Value} {g : Int → Int → Bool} (h : OpR X f (rI0 fun i j => .bl (g i j))) : OpD k X G W f (cOp g) := .of (fun _ => h) fun cc σ H δ μ ι d e x y Q rs dx dy q => by
  cases d <;> first | exact q.elim | skip
  cases e <;> first | exact q.elim | skip
  exact ⟨_, _, dx, dy, q.now rs rfl⟩
theorem od_sub : OpD k X G W (binaryOp .Sub) (iOp fun i j => i - j) := od_int op_sub
theorem od_lt : OpD k X G W (compareOp .Lt) (cOp fun i j => decide (i < j)) := od_cmp op_lt
theorem od_le : OpD k X G W (compareOp .LtE) (cOp fun i j => decide (i ≤ j)) := od_cmp op_le
theorem od_gt : OpD k X G W (compareOp .Gt) (cOp fun i j => decide (j < i)) := od_cmp op_gt
theorem od_ge : OpD k X G W (compareOp .GtE) (cOp fun i j => decide (j ≤ i)) := od_cmp op_ge
/-- products: one factor below 2^64, or together below a million bits -/
def mulOk (i j : Int) : Bool := decide (i.natAbs < 2 ^ 64) || decide (j.natAbs < 2 ^ 64) || decide (i.natAbs.log2 + j.natAbs.log2 < 1000000)
def divOk (j : Int) : Bool := decide (0 < j) && decide (j.natAbs.log2 < 9000)
/-- * of ints; of a list or tuple or text by an int -/
@[simp] def mulD (x y : D) (μ : MH) : R D := match x, y with
  | .int i, .int j => if mulOk i j = true then .ok (.int (i * j)) μ else .no
  | _, _ => .no
@[simp] def fdivD (x y : D) (μ : MH) : R D := match x, y with
  | .int i, .int j => if divOk j = true then .ok (.int (i / j)) μ else .no
  | _, _ => .no
@[simp] def modD (x y : D) (μ : MH) : R D := match x, y with
  | .int i, .int j => if 0 < j then .ok (.int (i % j)) μ else .no
  | _, _ => .no
theorem od_mul : OpD k X G W (binaryOp .Mult) mulD := fun cc pins s σ H δ μ ι d e x y v u Q I rx ry rs dx dy q => by
  cases d <;> first | exact q.elim | skip
  cases e <;> first | exact q.elim | skip
  rename_i i j
  simp only [mulD] at q
  by_cases h : mulOk i j = true
  · rw [if_pos h] at q
    simp only [mulOk, Bool.or_eq_true, decide_eq_true_eq] at h
    rcases h with (h | h) | h
    · exact op_mul pins s σ H x y v u Q I rx ry ⟨i, j, dx, dy, .inl (by omega), q.now rs rfl⟩
    · exact op_mul pins s σ H x y v u Q I rx ry ⟨i, j, dx, dy, .inr (by omega), q.now rs rfl⟩
    · exact op_mulW pins s σ H x y v u Q I rx ry ⟨i, j, dx, dy, h, q.now rs rfl⟩
  · rw [if_neg h] at q; exact q.elim
theorem od_fdiv : OpD k X G W (binaryOp .FloorDiv) fdivD := .of (fun _ => op_fdivW) fun cc σ H δ μ ι d e x y Q rs dx dy q => by
  cases d <;> first | exact q.elim | skip
  cases e <;> first | exact q.elim | skip
  rename_i i j
  simp only [fdivD] at q
  by_cases h : divOk j = true
  · rw [if_pos h] at q
    simp only [divOk, Bool.and_eq_true, decide_eq_true_eq] at h
    exact ⟨i, j, dx, dy, h, q.now rs rfl⟩
  · rw [if_neg h] at q; exact q.elim
theorem od_mod : OpD k X G W (binaryOp .Mod) modD := .of (fun _ => op_mod) fun cc σ H δ μ ι d e x y Q rs dx dy q => by
  cases d <;> first | exact q.elim | skip
  cases e <;> first | exact q.elim | skip
  rename_i i j
  simp only [modD] at q
  by_cases h : 0 < j
  · rw [if_pos h] at q
    exact ⟨i, j, dx, dy, h, q.now rs rfl⟩
  · rw [if_neg h] at q; exact q.elim
@[simp] def powD (x y : D) (μ : MH) : R D := match x, y with
  | .int i, .int j => if 0 ≤ j ∧ j ≤ 100 ∧ i.natAbs < 2 ^ 64 then .ok (.int (i ^ j.toNat)) μ else .no
  | _, _ => .no
theorem od_pow : OpD k X G W (binaryOp .Pow) powD := .of (fun _ => op_pow) fun cc σ H δ μ ι d e x y Q rs dx dy q => by
  cases d <;> first | exact q.elim | skip
  cases e <;> first | exact q.elim | skip
  rename_i i j
  simp only [powD] at q
  by_cases h : 0 ≤ j ∧ j ≤ 100 ∧ i.natAbs < 2 ^ 64
  · rw [if_pos h] at q
    exact ⟨i, j, dx, dy, ⟨h.1, by omega, h.2.2⟩, q.now rs rfl⟩
  · rw [if_neg h] at q; exact q.elim
end
end SZ
end
section
/-! SZ, part F: + and *, chains of comparisons, subscripts, slices. -/
namespace SZ
open PySem PySem.Spec PyProof.Rows L2
section
variable {prog : Program} {w : World} {A : Around} {E : Value → Shared → Prop} {s : Shared}
theorem cat_list {l b : Addr} {vs ws : List Value} {Q : Value → Shared → Prop} (hl : s.heap.IsList l vs.toArray) (hb : s.heap.IsList b ws.toArray)
    (hsz : vs.length + ws.length ≤ sizeLine) (h : Q (.ref s.heap.objs.size) { s with heap := s.heap.push { cls := .type "list", data := .seq (vs ++ ws).toArray }, toks := s.toks }) :
    wpAny (model prog w) A (binaryOp .Add (.ref l) (.ref b)) Q E s := by
  obtain ⟨⟨cls, dd, data, sl⟩, ho, hc, n, hd⟩ := id hl
  obtain ⟨⟨cls2, dd2, data2, sl2⟩, ho2, hc2, n2, hd2⟩ := id hb
  simp only at hc hd hc2 hd2
  subst hc hd hc2 hd2
  have e : vs.toArray ++ ws.toArray = (vs ++ ws).toArray := by simp
  refine concat_meets ⟨_, ho, rfl⟩ ⟨_, ho2, rfl⟩ noFill_list_add seq_list_add PySem.F.slot_list_add PySem.F.entry_list_add (PySem.F.args_list_add_2 _ _) (list_addW l b vs.toArray ws.toArray n n2 dd dd2 sl sl2 (by simpa using hsz)) ⟨ho, ho2, ?_⟩
  rw [e]
  exact h
end
section
variable {k : Nat} {X : Cx} {G : Glo} {W : WX} {a b c : Expr} {fa fb fc : EF} {ta tb : TF} {pos : Pos} {es : List Expr} {fs : AF}
def rCatL (K : PySem.W.Frag) : R2 := fun x y H Q => ∃ l b xs zs, x = .ref l ∧ y = .ref b ∧ SqL K H l xs ∧ SqL K H b zs ∧ xs.length + zs.length ≤ sizeLine ∧ ∀ p, H p = none → Q (.ref p) (upd H p (.lst (xs ++ zs)))
theorem op_catL : OpR X (binaryOp .Add) (rCatL X.K) := by
  intro pins s σ H x y v u Q I rx ry h
  obtain ⟨l, b, xs, zs, rfl, rfl, hH, hB, hz, q⟩ := h
  cases rx
  cases ry
  obtain ⟨its, r, pl, _⟩ := I.list hH
  obtain ⟨its2, r2, pl2, _⟩ := I.list hB
  refine cat_list pl.isList pl2.isList (by rw [← r.length, ← r2.length]; exact hz) ?_
  exact ⟨.ref _, _, I.lnew (t' := s.toks) (r.append r2) (by rw [List.length_append]; exact hz), rfl, q _ I.fresh⟩
@[simp] def lstOf (μ : MH) : D → Option (List D)
  | .lst l => some l
  | .ref n => match μ[n]? with
    | some (some (.lst l)) => some l
    | _ => none
  | _ => none
theorem lst_view {σ : L2.St} {δ : Sl} {H : Hp} {ι : List Addr} {d : D} {v : V} {μ : MH} {l : List D} (rs : RS G σ H δ μ ι) (dx : DV G H ι d v) (h : lstOf μ d = some l) :
    ∃ a vs, v = .ref a ∧ SqL G.K H a vs ∧ DVs G H ι l vs := by
  cases d with
  | lst l' =>
    obtain ⟨a, vs, e, s, r⟩ := dx
    cases h
    exact ⟨a, vs, e, s.seq, r⟩
  | ref n =>
    obtain ⟨a, ea, rfl⟩ := dx
    simp only [lstOf] at h
    cases e : (μ[n]? : Option (Option MO)) with
    | none => simp [e] at h
    | some om =>
      cases om with
      | none => simp [e] at h
      | some m =>
        cases m with
        | lst l' =>
          simp only [e, Option.some.injEq] at h
          subst h
          obtain ⟨vs, e1, r⟩ := rs.hs.there e ea
          exact ⟨a, vs, rfl, SqL.of e1, r⟩
        | _ => simp [e] at h
  | _ => simp [lstOf] at h
/-- + : ints, texts, tuples, lists (a new list that never changes) -/
@[simp] def addD (x y : D) (μ : MH) : R D := match x, y with
  | .int i, .int j => .ok (.int (i + j)) μ
  | .str i, .str j => if i.length + j.length ≤ sizeLine then .ok (.str (i ++ j)) μ else .no
  | .tup l, .tup m => if l.length + m.length ≤ sizeLine then .ok (.tup (l ++ m)) μ else .no
  | x, y => match lstOf μ x, lstOf μ y with
    | some l, some m => if l.length + m.length ≤ sizeLine then .ok (.lst (l ++ m)) μ else .no
    | _, _ => .no
theorem od_add : OpD k X G W (binaryOp .Add) addD := fun cc pins s σ H δ μ ι d e x y v u Q I rx ry rs dx dy q => by
  have lists : (match lstOf μ d, lstOf μ e with
    | some l, some m => if l.length + m.length ≤ sizeLine then (.ok (.lst (l ++ m)) μ : R D) else .no
    | _, _ => .no) = addD d e μ → wpAny (model X.prog X.w) X.A (binaryOp .Add v u) (EP X pins σ Q) X.xe s := fun ee => by
    rw [← ee] at q
    cases h1 : lstOf μ d with
    | none => simp only [h1] at q; exact q.elim
    | some l =>
      cases h2 : lstOf μ e with
      | none => simp only [h1, h2] at q; exact q.elim
      | some m =>
        simp only [h1, h2] at q
        by_cases hl : l.length + m.length ≤ sizeLine
        · rw [if_pos hl] at q
          obtain ⟨p1, vs, rfl, s1, d1⟩ := lst_view rs dx h1
          obtain ⟨p2, ws, rfl, s2, d2⟩ := lst_view rs dy h2
          refine thn (op_catL pins s σ H _ _ v u (FQ Q) I rx ry ⟨p1, p2, vs, ws, rfl, rfl, by rw [cc.hK]; exact s1, by rw [cc.hK]; exact s2, by rw [← d1.length, ← d2.length]; exact hl, fun p hp => q.newL rs hp (d1.append d2)⟩) fun _ _ z => FQ.ep z
        · rw [if_neg hl] at q; exact q.elim
  cases d with
  | int i =>
    cases e with
    | int j => exact op_add pins s σ H x y v u Q I rx ry ⟨i, j, dx, dy, q.now rs rfl⟩
    | _ => exact lists rfl
  | str i =>
    cases e with
    | str j =>
      simp only [addD] at q
      by_cases hl : i.length + j.length ≤ sizeLine
      · rw [if_pos hl] at q
        exact op_add_str pins s σ H x y v u Q I rx ry ⟨i, j, dx, dy, hl, q.now rs rfl⟩
      · rw [if_neg hl] at q; exact q.elim
    | _ => exact lists rfl
  | tup l =>
    cases e with
    | tup m =>
      simp only [addD] at q
      by_cases hl : l.length + m.length ≤ sizeLine
      · rw [if_pos hl] at q
        obtain ⟨p1, vs, rfl, s1, d1⟩ := dx
        obtain ⟨p2, ws, rfl, s2, d2⟩ := dy
        refine op_catA pins s σ H _ _ v u Q I rx ry ⟨p1, p2, vs, ws, rfl, rfl, by rw [cc.hK]; exact s1, by rw [cc.hK]; exact s2, by rw [← d1.length, ← d2.length]; exact hl, fun e0 => ?_, fun n0 e0 => ?_, fun n0 n1 p hp => ?_⟩
        · subst e0
          obtain rfl : l = [] := by cases l with
            | nil => rfl
            | cons _ _ => obtain ⟨_, _, z, _⟩ := d1; cases z
          exact q.now rs ⟨p2, ws, rfl, s2, d2⟩
        · subst e0
          obtain rfl : m = [] := by cases m with
            | nil => rfl
            | cons _ _ => obtain ⟨_, _, z, _⟩ := d2; cases z
          rw [List.append_nil] at q
          exact q.now rs ⟨p1, vs, rfl, s1, d1⟩
        · exact q.new rs hp ⟨p, vs ++ ws, rfl, SqT.of upd_same, DVs.mono (Ext.upd_free hp) (List.prefix_refl _) _ _ (d1.append d2)⟩
      · rw [if_neg hl] at q; exact q.elim
    | _ => exact lists rfl
  | _ => exact lists rfl

/-! ### * of lists, tuples, texts -/
theorem int_rmul_list (a : Int) (t : Tok) (l : Addr) (items : Array Value) (n : Nat) (dd : Option Addr) (sl : Array (Option Value)) :
    Meets (Builtin.«int.__rmul__» ⟨[.int a t, .ref l], []⟩) (fun _ R s => s.heap.get? l = some { cls := .type "list", dict := dd, data := .seq items n, slots := sl } ∧ R (.ok (.ret Value.notImplemented)) s) :=
  .of_wp fun prog w A R s h => by obtain ⟨hp, g, d, tk, os⟩ := s; obtain ⟨hl, h⟩ := h; wp_walk using wpAny_loadPart' hl; exact ⟨_, rfl, h⟩
/-- a list that is there as a mutable object or a frozen one, times an int from 0 on -/
def rRepL : R2 := fun x y H Q => ∃ l k xs, x = .ref l ∧ y = .int k ∧ Rd H l (.lst xs) ∧ -(2 ^ 63) ≤ k ∧ k < 2 ^ 63 ∧ xs.length * k.toNat ≤ sizeLine ∧
  ∀ p, H p = none → Q (.ref p) (upd H p (.lst (List.replicate k.toNat xs).flatten))
theorem op_repL : OpR X (binaryOp .Mult) rRepL := by
  intro pins s σ H x y v u Q I rx ry h
  obtain ⟨l, k, xs, rfl, rfl, hH, h1, h2, hz, q⟩ := h
  cases rx
  obtain ⟨t, rfl⟩ := ry
  obtain ⟨z, its, n, r, e⟩ := hH.ok I.hok
  have hl := r.length
  have hlen : its.toArray.size * k.toNat ≤ sizeLine := by rw [List.size_toArray, ← hl]; exact hz
  have hcap : ¬ its.toArray.size * k.toNat > (2 ^ 63 - 1) / 8 := by
    have : (sizeLine : Nat) ≤ (2 ^ 63 - 1) / 8 := by decide
    omega
  have hfit : ¬ (!Builtin.List.listFitsIndex k) = true := by
    rw [fitsIndex_both h1 h2]
    exact Bool.false_ne_true
  have hlong : ¬ Builtin.List.listTooLong (its.toArray.size * k.toNat) = true := by
    rw [notLongL hlen]
    exact Bool.false_ne_true
  have hnew : List.foldl (fun x1 x2 => x1 ++ x2) #[] (List.replicate (if its.toArray.isEmpty = true then 0 else k.toNat) its.toArray) = (List.replicate k.toNat its).flatten.toArray := by
    have f0 : ∀ m : Nat, List.foldl (fun x1 x2 => x1 ++ x2) #[] (List.replicate m its.toArray) = (List.replicate m its).flatten.toArray := fun m => by
      have := foldl_rep its m []
      rw [List.nil_append] at this
      exact this
    rw [f0]
    cases its with
    | nil => simp
    | cons a r' => rw [if_neg (by simp)]
  refine wpAny_binaryOp_repeat_ref (T := "list") (U := "int") (by decide) ⟨_, e, rfl⟩ (fun s' => typeIs_int s' k t) noFill_list_mul PySem.F.fills_int_mul PySem.F.slot_int_rmul repeat_list PySem.F.slot_int_index.lookup
    (call_meets PySem.F.slot_int_rmul (typeIs_int s k t) PySem.F.entry_int_rmul (PySem.F.args_int_rmul_2 _ _) (int___rmul___int_list k t l its.toArray n)
      ⟨e, rfl, ⟨_, e, rfl⟩, call_meets PySem.F.slot_list_mul ⟨_, e, rfl⟩ PySem.F.entry_list_mul (PySem.F.args_list_mul_2 _ _) (AutoListH.list___mul___list_int_3 l its.toArray n k t hfit hcap hlong) ⟨e, ?_⟩⟩)
  rw [hnew]
  exact ⟨.ref _, _, I.lnew (t' := s.toks) (r.rep k.toNat) (by rw [PyProof.Rows.lm_len_rep_flat, Nat.mul_comm]; exact hz), rfl, q _ I.fresh⟩
theorem DVs.reps {H : Hp} {ι : List Addr} {l : List D} {vs : List V} (h : DVs G H ι l vs) : ∀ k : Nat, DVs G H ι (List.replicate k l).flatten (List.replicate k vs).flatten
  | 0 => rfl
  | k + 1 => by
    rw [List.replicate_succ, List.replicate_succ, List.flatten_cons, List.flatten_cons]
    exact h.append (DVs.reps h k)
/-- a new list: a display times an int; it may change -/
@[simp] def repM (x y : D) (μ : MH) : R D := match x, y with
  | .ref n, .int k => match μ[n]? with
    | some (some (.lst l)) => if -(2 ^ 63) ≤ k ∧ k < 2 ^ 63 ∧ l.length * k.toNat ≤ sizeLine then .ok (.ref μ.length) (μ ++ [some (.lst (List.replicate k.toNat l).flatten)]) else .no
    | _ => .no
  | _, _ => .no
theorem od_repM : OpD k X G W (binaryOp .Mult) repM := fun cc pins s σ H δ μ ι d e x y v u Q I rx ry rs dx dy q => by
  cases d <;> first | exact q.elim | skip
  cases e <;> first | exact q.elim | skip
  rename_i n i
  simp only [repM] at q
  cases em : (μ[n]? : Option (Option MO)) with
  | none => simp only [em] at q; exact q.elim
  | some om =>
    cases om with
    | none => simp only [em] at q; exact q.elim
    | some m =>
      cases m with
      | lst l =>
        simp only [em] at q
        by_cases h : -(2 ^ 63) ≤ i ∧ i < 2 ^ 63 ∧ l.length * i.toNat ≤ sizeLine
        · rw [if_pos h] at q
          obtain ⟨ad, ea, rfl⟩ := dx
          obtain ⟨vs, e1, r⟩ := rs.hs.there em ea
          have dy' : y = .int i := dy
          subst dy'
          exact op_repL pins s σ H _ _ v u Q I rx ry ⟨ad, i, vs, rfl, rfl, .inl e1, h.1, h.2.1, by rw [← r.length]; exact h.2.2, fun p hp => q.newM rs hp ⟨_, upd_same, DVs.mono (Ext.upd_free hp) (List.prefix_append _ _) _ _ (r.reps _)⟩⟩
        · rw [if_neg h] at q; exact q.elim
      | _ => simp only [em] at q; exact q.elim
/-- a tuple times an int from 2 on -/
@[simp] def repT (x y : D) (μ : MH) : R D := match x, y with
  | .tup l, .int k => if 2 ≤ k ∧ k ≤ 1000 ∧ l ≠ [] ∧ l.length ≤ 1000 then .ok (.tup (List.replicate k.toNat l).flatten) μ else .no
  | _, _ => .no
theorem od_repT : OpD k X G W (binaryOp .Mult) repT := fun cc pins s σ H δ μ ι d e x y v u Q I rx ry rs dx dy q => by
  cases d <;> first | exact q.elim | skip
  cases e <;> first | exact q.elim | skip
  rename_i l i
  simp only [repT] at q
  by_cases h : 2 ≤ i ∧ i ≤ 1000 ∧ l ≠ [] ∧ l.length ≤ 1000
  · rw [if_pos h] at q
    obtain ⟨ad, vs, rfl, sq, r⟩ := dx
    have dy' : y = .int i := dy
    subst dy'
    exact op_repT pins s σ H _ _ v u Q I rx ry ⟨ad, i, vs, rfl, rfl, by rw [cc.hK]; exact sq, fun z => h.2.2.1 (by
        subst z; cases l with
        | nil => rfl
        | cons _ _ => obtain ⟨_, _, z, _⟩ := r; cases z), h.1, h.2.1, by rw [← r.length]; exact h.2.2.2, fun p hp => q.new rs hp ⟨p, _, rfl, SqT.of upd_same, DVs.mono (Ext.upd_free hp) (List.prefix_refl _) _ _ (r.reps _)⟩⟩
  · rw [if_neg h] at q; exact q.elim

/-! ### a < b <= c -/
theorem eCh_read {o1 o2 : D → D → MH → R D} {σ : L2.St} {H : Hp} {Q : VK} (h : rE G W (eCh o1 o2 fa fb fc) σ H Q) :
    rE G W fa σ H fun x H1 => rE G W fb σ H1 fun y H2 => ∃ δ μ ι d e, RS G σ H2 δ μ ι ∧ DV G H2 ι d x ∧ DV G H2 ι e y ∧ RR G W σ δ (DV G) H2 ι (o1 d e μ) fun z H3 => ∃ c, z = .bl c ∧
      if c = true then (rE G W fc σ H3 fun zz H4 => ∃ δ μ ι d e, RS G σ H4 δ μ ι ∧ DV G H4 ι d y ∧ DV G H4 ι e zz ∧ RR G W σ δ (DV G) H4 ι (o2 d e μ) Q) else Q (.bl false) H3 := by
  obtain ⟨δ, μ, ι, rs, h⟩ := h
  refine ⟨δ, μ, ι, rs, RR.bnd h fun d μ1 x H1 ι1 x1 p1 rs1 dx h1 => ⟨δ, μ1, ι1, rs1, RR.bnd h1 fun e μ2 y H2 ι2 x2 p2 rs2 dy h2 => ?_⟩⟩
  refine ⟨δ, μ2, ι2, d, e, rs2, DV.mono x2 p2 _ _ dx, dy, RR.bnd h2 fun z μ3 vz H3 ι3 x3 p3 rs3 dz h3 => ?_⟩
  obtain ⟨c, ec, h3⟩ := asB_k dz h3
  refine ⟨c, ec, ?_⟩
  cases c with
  | true =>
    rw [if_pos rfl] at h3 ⊢
    exact ⟨δ, μ3, ι3, rs3, RR.bnd h3 fun dz μ4 vz H4 ι4 x4 p4 rs4 dvz h4 => ⟨δ, μ4, ι4, e, dz, rs4, DV.mono (x3.trans x4) (p3.trans p4) _ _ dy, dvz, h4⟩⟩
  | false =>
    rw [if_neg Bool.false_ne_true] at h3 ⊢
    exact h3.now rs3 rfl
theorem de_chain {op op' : CmpOp} {o1 o2 : D → D → MH → R D} (ho : OpD k X G W (compareOp op) o1) (ho' : OpD k X G W (compareOp op') o2) (ha : DE k X G W a fa) (hb : DE k X G W b fb) (hc : DE k X G W c fc)
    (hm : lastMarks [op, op'] [b, c] = false := by with_unfolding_all rfl) : DE k X G W (.Compare a [op, op'] [b, c] pos) (eCh o1 o2 fa fb fc) := fun cc => by
  refine ⟨fun pins s σ H Q I h => ?_⟩
  have h := eCh_read h
  refine Compare_chain (thn ((ha cc).run pins s σ H _ I h) fun v s1 ⟨x, H1, I1, r1, q1⟩ => chain_link (thn ((hb cc).run pins s1 σ H1 _ I1 q1) fun u s2 ⟨y, H2, I2, r2, δ, μ, ι, d, e, rs, dx, dy, q2⟩ =>
    thn (ho cc pins s2 σ H2 δ μ ι d e x y v u _ I2 r1 r2 rs dx dy q2) fun dd s3 ⟨z, H3, I3, r3, kk, ek, q3⟩ => ?_)) hm
  subst ek
  cases r3
  refine wpAny_truthy_bool ?_
  cases kk with
  | false => exact ite_ff ⟨.bl false, H3, I3, rfl, q3⟩
  | true => exact ite_tt (chain_last (thn ((hc cc).run pins s3 σ H3 _ I3 q3) fun w' s4 ⟨z', H4, I4, r4, δ, μ, ι, d, e, rs, dx, dy, q4⟩ => ho' cc pins s4 σ H4 δ μ ι d e y z' u w' Q I4 r2 r4 rs dx dy q4))
theorem dt_chain {op op' : CmpOp} {o1 o2 : D → D → MH → R D} (ho : OpD k X G W (compareOp op) o1) (ho' : OpD k X G W (compareOp op') o2) (ha : DE k X G W a fa) (hb : DE k X G W b fb) (hc : DE k X G W c fc)
    (hm : lastMarks [op, op'] [b, c] = false := by with_unfolding_all rfl) : DT k X G W (.Compare a [op, op'] [b, c] pos) (tVal (eCh o1 o2 fa fb fc)) := fun cc => by
  refine ⟨fun pins s σ H Q I h => ?_⟩
  obtain ⟨δ, μ, ι, rs, h⟩ := h
  have h : rE G W (eCh o1 o2 fa fb fc) σ H fun x H1 => ∃ c, x = .bl c ∧ Q c H1 := ⟨δ, μ, ι, rs, RR.bnd h fun d μ1 x H1 ι1 x1 p1 rs1 dx q => asB_of rs1 dx q⟩
  have h := eCh_read h
  refine isTrue_chain (thn ((ha cc).run pins s σ H _ I h) fun v s1 ⟨x, H1, I1, r1, q1⟩ => test_link (thn ((hb cc).run pins s1 σ H1 _ I1 q1) fun u s2 ⟨y, H2, I2, r2, δ, μ, ι, d, e, rs, dx, dy, q2⟩ =>
    thn (ho cc pins s2 σ H2 δ μ ι d e x y v u _ I2 r1 r2 rs dx dy q2) fun dd s3 ⟨z, H3, I3, r3, kk, ek, q3⟩ => ?_)) hm
  subst ek
  cases r3
  refine wpAny_truthy_bool ?_
  cases kk with
  | false =>
    obtain ⟨k', e', q'⟩ := q3
    cases e'
    exact ite_ff ⟨H3, I3, q'⟩
  | true =>
    refine ite_tt (test_last ?_)
    exact thn ((hc cc).run pins s3 σ H3 _ I3 q3) fun w' s4 ⟨z', H4, I4, r4, δ, μ, ι, d, e, rs, dx, dy, q4⟩ => thn (ho' cc pins s4 σ H4 δ μ ι d e y z' u w' _ I4 r2 r4 rs dx dy q4) fun w5 s5 ⟨z5, H5, I5, r5, k5, e5, q5⟩ => by
      subst e5
      cases r5
      exact wpAny_truthy_bool ⟨H5, I5, q5⟩
end
end SZ
end
section
/-! SZ, part G: subscripts, slices, stores. -/
namespace SZ
open PySem PySem.Spec PyProof.Rows L2
section
variable {k : Nat} {X : Cx} {G : Glo} {W : WX} {a b c : Expr} {fa fb fc : EF} {ta tb : TF} {pos : Pos} {es : List Expr} {fs : AF}
/-! ### x[i] -/
theorem DVs.at_ {H : Hp} {ι : List Addr} {l : List D} {vs : List V} {i : Int} {d : D} (h : DVs G H ι l vs) (e : atI l i = some d) : ∃ v, atI vs i = some v ∧ DV G H ι d v := by
  unfold atI at e ⊢
  rw [← h.length]
  cases q : ixN l.length i with
  | none => rw [q] at e; cases e
  | some j =>
    rw [q] at e
    exact h.get e
@[simp] def ixD (x i : D) (μ : MH) : R D := match seqOf μ x with
  | some l => match i with
    | .int j => match atI l j with
      | some d => .ok d μ
      | none => .no
    | _ => .no
  | none => match dicOf μ x with
    | some (t, ks, vs) => match keyOf t i with
      | some q => match dlook q ks vs with
        | some d => .ok d μ
        | none => .no
      | none => .no
    | none => match x, i with
      | .str z, .int j => if z.length ≤ sizeLine then match atI z.cps.toList j with
          | some c => .ok (.str ⟨#[c]⟩) μ
          | none => .no
        else .no
      | _, _ => .no
theorem dicAt_typeIs {pins : List (Addr × Obj)} {σ : L2.St} {H : Hp} {s : Shared} {ι : List Addr} {ad : Addr} {t : Bool} {ks vs : List D} (hK : X.K = G.K) (I : Inv X pins σ H s) (h : DicAt G H ι ad t ks vs) : s.TypeIs (.ref ad) "dict" := by
  cases t with
  | false =>
    obtain ⟨kvs, e, _⟩ := h
    obtain ⟨_, _, vs, _, dd⟩ := dk_rd I.hok e
    exact dd.typeIs
  | true =>
    obtain ⟨xs, ws, e, hn, h1, _⟩ := h
    obtain ⟨_, _, dd⟩ := dn_of hK I e hn h1
    exact dd.typeIs
theorem de_ix (ha : DE k X G W a fa) (hb : DE k X G W b fb) (hs : PlainIx b := by first | exact fun _ _ => rfl | (intro _ _; with_unfolding_all rfl)) : DE k X G W (.Subscript a b pos) (eB ixD fa fb) := fun cc => by
  refine ⟨fun pins s σ H Q I h => ?_⟩
  have h' := eB_read (R' := fun x y H2 => ∃ δ μ ι d e, RS G σ H2 δ μ ι ∧ DV G H2 ι d x ∧ DV G H2 ι e y ∧ RR G W σ δ (DV G) H2 ι (ixD d e μ) Q) h fun δ μ ι d e x y H2 rs dx dy q => ⟨δ, μ, ι, d, e, rs, dx, dy, q⟩
  refine Subscript_ (binT (ha cc) (hb cc) I h' fun v u s2 x y H2 I2 rx ry ⟨δ, μ, ι, d, e, rs, dx, dy, q⟩ => ?_)
  unfold ixD at q
  cases h1 : seqOf μ d with
  | some l =>
    simp only [h1] at q
    cases e with
    | int j =>
      simp only at q
      cases h2 : atI l j with
      | none => simp only [h2] at q; exact q.elim
      | some dd =>
        simp only [h2] at q
        obtain ⟨ad, vs, rfl, sq, dl⟩ := seq_view rs dx h1
        obtain ⟨z, hz, dz⟩ := dl.at_ h2
        rcases sq with sq | sq
        · exact ix_list a b pins s2 σ H2 _ y v u Q I2 rx ry ⟨ad, vs, j, z, rfl, dy, by rw [cc.hK]; exact sq, hz, q.now rs dz⟩ (hs _ _)
        · exact ix_tup a b pins s2 σ H2 _ y v u Q I2 rx ry ⟨ad, vs, j, z, rfl, dy, by rw [cc.hK]; exact sq, hz, q.now rs dz⟩ (hs _ _)
    | _ => exact q.elim
  | none =>
    simp only [h1] at q
    cases h2 : dicOf μ d with
    | some z =>
      obtain ⟨t, ks, vs⟩ := z
      simp only [h2] at q
      cases h3 : keyOf t e with
      | none => simp only [h3] at q; exact q.elim
      | some kq =>
        simp only [h3] at q
        cases h4 : dlook kq ks vs with
        | none => simp only [h4] at q; exact q.elim
        | some dd =>
          simp only [h4] at q
          obtain ⟨ad, rfl, da⟩ := dic_view rs dx h2
          have hu := cc.room.units
          cases rx
          exact tail_any (dicAt_typeIs cc.hK I2 da) PySem.F.slot_dict_getitem.lookup (dic_get cc.hP cc.hw cc.hK (by omega) I2 da h3 dy ry h4 fun z w' s' I' rz dz => ⟨z, H2, I', rz, q.now rs dz⟩) (hs _ _)
    | none =>
      simp only [h2] at q
      cases d with
      | str z =>
        cases e with
        | int j =>
          simp only at q
          by_cases hz : z.length ≤ sizeLine
          · rw [if_pos hz] at q
            cases h3 : atI z.cps.toList j with
            | none => simp only [h3] at q; exact q.elim
            | some ch =>
              simp only [h3] at q
              exact ix_str a b pins s2 σ H2 x y v u Q I2 rx ry ⟨z, j, ch, dx, dy, hz, h3, q.now rs rfl⟩ (hs _ _)
          · rw [if_neg hz] at q; exact q.elim
        | _ => exact q.elim
      | _ => exact q.elim

/-! ### x[lo:hi] -/
abbrev OF := Sl → MH → R (Option Int)
@[simp] def oNo : OF := fun _ μ => .ok none μ
@[simp] def asI : D → MH → R (Option Int) := fun d μ => match d with
  | .int i => .ok (some i) μ
  | _ => .no
@[simp] def oSo (f : EF) : OF := fun δ μ => (f δ μ).bind asI
def rO (G : Glo) (W : WX) (f : OF) : TO := fun σ H Q => ∃ δ μ ι, RS G σ H δ μ ι ∧ RR G W σ δ (fun _ _ (a b : Option Int) => a = b) H ι (f δ μ) Q
def DO_ (k : Nat) (X : Cx) (G : Glo) (W : WX) (e : Option Expr) (f : OF) : Prop := CC k X G W → PO X e (rO G W f)
theorem do_no : DO_ k X G W none oNo := fun _ => ⟨fun pins s σ H Q I ⟨δ, μ, ι, rs, q⟩ => po_none.run pins s σ H Q I (q.now rs rfl)⟩
theorem do_so (h : DE k X G W a fa) : DO_ k X G W (some a) (oSo fa) := fun cc => ⟨fun pins s σ H Q I ⟨δ, μ, ι, rs, q⟩ => (po_some (h cc)).run pins s σ H Q I ⟨δ, μ, ι, rs, RR.bnd q fun d μ1 x H1 ι1 x1 p1 rs1 dx q => by
  cases d with
  | int i => exact ⟨i, dx, q.now rs1 rfl⟩
  | _ => exact q.elim⟩⟩
def cutD {α : Type} (xs : List α) (lo hi : Option Int) : List α := (xs.drop (HT.sIx xs.length 0 lo)).take (HT.sIx xs.length xs.length hi - HT.sIx xs.length 0 lo)
theorem DVs.cut {H : Hp} {ι : List Addr} {l : List D} {vs : List V} (h : DVs G H ι l vs) (lo hi : Option Int) : DVs G H ι (cutD l lo hi) (cutV vs lo hi) := by
  unfold cutD cutV
  rw [h.length]
  exact (h.drop _).take _
theorem cutD_whole {α : Type} {l : List α} {lo hi : Option Int} (h : HT.sIx l.length 0 lo = 0 ∧ HT.sIx l.length l.length hi = l.length) : cutD l lo hi = l := by
  unfold cutD
  rw [h.1, h.2]
  simp
@[simp] def slD (x : D) (lo hi : Option Int) (μ : MH) : R D := match x with
  | .tup l => .ok (.tup (cutD l lo hi)) μ
  | x => match lstOf μ x with
    | some l => .ok (.lst (cutD l lo hi)) μ
    | none => .no
@[simp] def eSl (fa : EF) (ol oh : OF) : EF := fun δ μ => (fa δ μ).bind fun x μ => (ol δ μ).bind fun l μ => (oh δ μ).bind fun h μ => slD x l h μ
theorem de_sl {lo hi : Option Expr} {ol oh : OF} {p2 : Pos} (ha : DE k X G W a fa) (hl : DO_ k X G W lo ol) (hh : DO_ k X G W hi oh) : DE k X G W (.Subscript a (.Slice lo hi none p2) pos) (eSl fa ol oh) := fun cc => by
  have hr : SlR X (fun x lo hi H Q => ∃ σ δ μ ι d, RS G σ H δ μ ι ∧ DV G H ι d x ∧ RR G W σ δ (DV G) H ι (slD d lo hi μ) Q) := by
    intro pins s σ H x v vl vu lo hi sl Q I rx hs pl pu ⟨σ0, δ, μ, ι, d, rs, dx, q⟩
    have lists : (match lstOf μ d with
      | some l => (.ok (.lst (cutD l lo hi)) μ : R D)
      | none => .no) = slD d lo hi μ → ∃ T id, typeLookup (.type T) "__getitem__" = pure (some (.builtin id)) ∧ s.TypeIs v T ∧ wpAny (model X.prog X.w) X.A (getItem v (.ref sl)) (EP X pins σ Q) X.xe s := fun ee => by
      rw [← ee] at q
      cases h1 : lstOf μ d with
      | none => simp only [h1] at q; exact q.elim
      | some l =>
        simp only [h1] at q
        obtain ⟨p1, vs, rfl, s1, d1⟩ := lst_view rs dx h1
        obtain ⟨T, id, g1, g2, g3⟩ := sl_list pins s σ H _ v vl vu lo hi sl (FQ Q) I rx hs pl pu ⟨p1, vs, rfl, by rw [cc.hK]; exact s1, fun p hp => q.newL rs hp (d1.cut lo hi)⟩
        exact ⟨T, id, g1, g2, thn g3 fun _ _ z => FQ.ep z⟩
    cases d with
    | tup l =>
      obtain ⟨p1, vs, rfl, s1, d1⟩ := dx
      refine sl_tupA pins s σ H _ v vl vu lo hi sl Q I rx hs pl pu ⟨p1, vs, rfl, by rw [cc.hK]; exact s1, fun hw => ?_, fun _ p hp => q.new rs hp ⟨p, _, rfl, SqT.of upd_same, DVs.mono (Ext.upd_free hp) (List.prefix_refl _) _ _ (d1.cut lo hi)⟩⟩
      simp only [slD] at q
      rw [← d1.length] at hw
      rw [cutD_whole hw] at q
      exact q.now rs ⟨p1, vs, rfl, s1, d1⟩
    | _ => exact lists rfl
  refine peI (pe_slice hr (ha cc) (hl cc) (hh cc)) fun σ H Q ⟨δ, μ, ι, rs, q⟩ => ⟨δ, μ, ι, rs, RR.bnd q fun d μ1 x H1 ι1 x1 p1 rs1 dx q => ⟨δ, μ1, ι1, rs1, RR.bnd q fun l μ2 lo' H2 ι2 x2 p2 rs2 e2 q => ⟨δ, μ2, ι2, rs2, RR.bnd q fun h μ3 hi' H3 ι3 x3 p3 rs3 e3 q => ?_⟩⟩⟩
  subst e2 e3
  exact ⟨σ, δ, μ3, ι3, d, rs3, DV.mono (x2.trans x3) (p2.trans p3) _ _ dx, q⟩

/-! ### x[i] = v -/
/-- the mutable heap behind x[i] = v -/
@[simp] def setD (x i v : D) (μ : MH) : Option MH := match x with
  | .ref n => match μ[n]? with
    | some (some (.lst l)) => match i with
      | .int j => match ixN l.length j with
        | some m => some (μ.set n (some (.lst (l.set m v))))
        | none => none
      | _ => none
    | some (some (.dic t ks vs)) => match keyOf t i with
      | some q => if ks.length < sizeLine then some (μ.set n (some (.dic t (dput q i v ks vs).1 (dput q i v ks vs).2))) else none
      | none => none
    | _ => none
  | _ => none
theorem dputv_len {q : NestedKey} {x : D} : ∀ {ks vs : List D}, (dputv q x ks vs).length = vs.length
  | [], [] => rfl
  | [], _ :: _ => rfl
  | _ :: _, [] => rfl
  | _ :: ks, _ :: vs => by simp [dputv, dputv_len (ks := ks) (vs := vs)]
theorem RS.wr {σ : L2.St} {H : Hp} {δ : Sl} {μ : MH} {ι : List Addr} {n : Nat} {m m' : MO} {ad : Addr} {o : HO} (rs : RS G σ H δ μ ι) (e : μ[n]? = some (some m)) (ea : ι[n]? = some ad) (new : MV G (upd H ad o) ι ad m') :
    Ext H (upd H ad o) ∧ RS G σ (upd H ad o) δ (μ.set n (some m')) ι := by
  obtain ⟨u, eu, cu⟩ := (rs.hs.there e ea).chg
  exact ⟨Ext.upd_chg eu cu, rs.ext (Ext.upd_chg eu cu) (List.prefix_refl _) (rs.hs.write e ea o new)⟩
theorem dnp_ok {P : Program} {w : World} {H : Hp} {h : Heap} {ad : Addr} {xs : List (NestedKey × Addr × Value)} (x : DNp G ad xs h) : ObjOk P w H h ad (DN G ad xs) := by
  obtain ⟨z, hl, hd, o, es, ep, ho, hx, hdt, he, hn⟩ := id x
  refine ⟨x, ⟨o, ho⟩, fun h1 h2 y kk => ?_⟩
  obtain ⟨z, hl, hd, o, es, ep, ho, hx, hdt, he, hn⟩ := y
  exact ⟨z, hl, hd, o, es, ep, kk o ho, hx, hdt, he, hn⟩
theorem set_run {pins : List (Addr × Obj)} {s : Shared} {σ : L2.St} {H : Hp} {δ : Sl} {μ μ' : MH} {ι : List Addr} {x i v : D} {vx vi vv : V} {ux ui uv : Value} {Q : Unit → Shared → Prop} (cc : CC k X G W) (I : Inv X pins σ H s) (rx : RelV vx ux) (ri : RelV vi ui) (rv : RelV vv uv)
    (rs : RS G σ H δ μ ι) (dx : DV G H ι x vx) (di : DV G H ι i vi) (dv : DV G H ι v vv) (h : setD x i v μ = some μ') (hq : ∀ H' s', Inv X pins σ H' s' → Ext H H' → RS G σ H' δ μ' ι → Q () s') :
    wpAny (model X.prog X.w) X.A (setItem ux ui uv) Q X.xe s := by
  have hu := cc.room.units
  cases x with
  | ref n =>
    obtain ⟨ad, ea, rfl⟩ := dx
    cases rx
    simp only [setD] at h
    cases em : (μ[n]? : Option (Option MO)) with
    | none => simp [em] at h
    | some om =>
      cases om with
      | none => simp [em] at h
      | some m =>
        cases m with
        | ins c ds => simp [em] at h
        | lst l =>
          simp only [em] at h
          cases i with
          | int j =>
            simp only at h
            cases ej : ixN l.length j with
            | none => simp [ej] at h
            | some mm =>
              simp only [ej, Option.some.injEq] at h
              subst h
              obtain ⟨vs, e1, r⟩ := rs.hs.there em ea
              have di' : vi = .int j := di
              subst di'
              obtain ⟨x1, rs1⟩ := RS.wr (m' := .lst (l.set mm v)) (o := .lst (vs.set mm vv)) rs em ea ⟨_, upd_same, DVs.mono (Ext.upd_chg e1 trivial) (List.prefix_refl _) _ _ (r.set mm dv)⟩
              exact thn (set_list pins s σ H (.ref ad) (.int j) vv (.ref ad) ui uv (fun H' => H' = upd H ad (.lst (vs.set mm vv))) I rfl ri rv ⟨ad, vs, j, mm, rfl, rfl, e1, by rw [← r.length]; exact ej, rfl⟩) fun _ s' ⟨H', I', eH⟩ => by subst eH; exact hq _ s' I' x1 rs1
          | _ => simp at h
        | dic t ks vs =>
          simp only [em] at h
          cases eq : keyOf t i with
          | none => rw [eq] at h; cases h
          | some q =>
            rw [eq] at h
            replace h : (if ks.length < sizeLine then some (μ.set n (some (.dic t (dput q i v ks vs).1 (dput q i v ks vs).2))) else none) = some μ' := h
            by_cases hl : ks.length < sizeLine
            · rw [if_pos hl] at h
              cases h
              have mv := rs.hs.there em ea
              cases t with
              | false =>
                obtain ⟨kvs, e1, h1, h2⟩ := mv
                obtain ⟨key, hk, ey, hn⟩ := key_scal eq di
                subst ey
                obtain ⟨p1, p2⟩ := put_dK hk di dv h1 h2
                have xx : Ext H (upd H ad (.dK (putK kvs key vv))) := Ext.upd_chg e1 trivial
                obtain ⟨x1, rs1⟩ := RS.wr (m' := .dic false (dput q i v ks vs).1 (dput q i v ks vs).2) (o := .dK (putK kvs key vv)) rs em ea ⟨_, upd_same, DVs.mono xx (List.prefix_refl _) _ _ p1, DVs.mono xx (List.prefix_refl _) _ _ p2⟩
                refine d_setItem (by omega) I (.inl ⟨kvs, key, e1, rfl, ?_, rfl⟩) ri rv fun s' I' => hq _ s' I' x1 rs1
                rw [h1.length, List.length_map] at hl
                exact hl
              | true =>
                obtain ⟨xs, ws, e1, hn, h1, h2, h3⟩ := mv
                obtain ⟨bk, e2, e3, hnk, his⟩ := key_tup cc.hK I eq di ri
                subst e2 e3
                obtain ⟨z, hlen, hD⟩ := dn_of cc.hK I (.inl e1) hn h1
                obtain ⟨p1, p2, ws', p3, p4⟩ := put_DN hnk di dv rv hn h1 h2 h3
                have xx : Ext H (upd H ad (DN G ad (storedH xs q bk uv))) := Ext.upd_chg e1 trivial
                obtain ⟨x1, rs1⟩ := RS.wr (m' := .dic true (dput q i v ks vs).1 (dput q i v ks vs).2) (o := DN G ad (storedH xs q bk uv)) rs em ea ⟨_, ws', upd_same, p1, DVs.mono xx (List.prefix_refl _) _ _ p2, p3, DVs.mono xx (List.prefix_refl _) _ _ p4⟩
                rw [cc.hP, cc.hw]
                have hxl : xs.length = ks.length := by
                  have := congrArg List.length hn
                  simpa using this.symm
                refine wpAny_setItem_heap (knd := nestedKind G.P G.w) (show X.A.in1.units + 8 < cLine by show X.A.units + 1 + 8 < cLine; omega) his hD (fun h' dd' hs => ?_) (hsz := hlen)
                refine hq _ _ ?_ x1 rs1
                obtain ⟨o, es, ep, g1, g2, g3, g4, g5, g6⟩ := dd'
                refine d_write I (by rw [e1]; exact True.intro) hs ⟨o, g1⟩ ?_
                refine dnp_ok ⟨z, ?_, fun y hy => (g5 y hy).2, o, es, ep, g1, g2, g3, g4, g6⟩
                have := congrArg List.length p1
                simp only [List.length_map] at this
                rw [← this]
                unfold dput
                by_cases hh : (dlook q ks vs).isSome = true
                · rw [if_pos hh]; show ks.length ≤ sizeLine; omega
                · rw [if_neg hh]; show (ks ++ [i]).length ≤ sizeLine; rw [List.length_append, List.length_singleton]; omega
            · rw [if_neg hl] at h; cases h
  | _ => simp at h
end
end SZ
end
section
/-! SZ, part H: statements, targets, loops. -/
namespace SZ
open PySem PySem.Spec PyProof.Rows L2
inductive SR where
  | nx (δ : Sl) (μ : MH)
  | rt (d : D) (μ : MH)
  | bk (δ : Sl) (μ : MH)
  | ct (δ : Sl) (μ : MH)
  | ex (c : Nat) (ds : List D) (δ : Sl) (μ : MH)
  | no
abbrev SF := Sl → MH → SR
def SRR (G : Glo) (W : WX) (D : Ends) (H : Hp) (ι : List Addr) (r : SR) : Prop :=
  match r with
  | .nx δ μ => ∀ σ H' ι', Ext H H' → ι <+: ι' → RS G σ H' δ μ ι' → D.nx σ H'
  | .bk δ μ => ∀ σ H' ι', Ext H H' → ι <+: ι' → RS G σ H' δ μ ι' → D.bk σ H'
  | .ct δ μ => ∀ σ H' ι', Ext H H' → ι <+: ι' → RS G σ H' δ μ ι' → D.ct σ H'
  | .rt d μ => ∀ v H' ι', Ext H H' → ι <+: ι' → HS G H' μ ι' → DV G H' ι' d v → D.rt v H'
  | .ex c ds δ μ => ∀ cls dd σ H' ι', Ext H H' → ι <+: ι' → RS G σ H' δ μ ι' → XR G H' ι' c ds cls dd → W cls dd σ H'
  | .no => False
def rS (G : Glo) (W : WX) (f : SF) : TS := fun D σ H => ∃ δ μ ι, RS G σ H δ μ ι ∧ SRR G W D H ι (f δ μ)
def DS (k : Nat) (X : Cx) (G : Glo) (W : WX) (st : Stmt) (f : SF) : Prop := CC k X G W → PS X st (rS G W f)
def DSs (k : Nat) (X : Cx) (G : Glo) (W : WX) (st : List Stmt) (f : SF) : Prop := CC k X G W → PSs X st (rS G W f)
section
variable {G : Glo} {W : WX} {D D' : Ends} {H H1 : Hp} {ι ι1 : List Addr} {r : SR}
theorem SRR.at_ (h : SRR G W D H ι r) (x : Ext H H1) (p : ι <+: ι1) : SRR G W D H1 ι1 r := by
  cases r with
  | nx δ μ => exact fun σ H' ι' x' p' => h σ H' ι' (x.trans x') (p.trans p')
  | bk δ μ => exact fun σ H' ι' x' p' => h σ H' ι' (x.trans x') (p.trans p')
  | ct δ μ => exact fun σ H' ι' x' p' => h σ H' ι' (x.trans x') (p.trans p')
  | rt d μ => exact fun v H' ι' x' p' => h v H' ι' (x.trans x') (p.trans p')
  | ex c ds δ μ => exact fun cls dd σ H' ι' x' p' => h cls dd σ H' ι' (x.trans x') (p.trans p')
  | no => exact h
/-- behind an expression -/
@[simp] def R.to {α : Type} (δ : Sl) (r : R α) (k : α → MH → SR) : SR := match r with
  | .ok a μ => k a μ
  | .ex c ds μ => .ex c ds δ μ
  | .no => .no
theorem RR.to {α β : Type} {σ : L2.St} {δ : Sl} {rel : Hp → List Addr → α → β → Prop} {r : R α} {k : α → MH → SR} {Q : β → Hp → Prop} (h : SRR G W D H ι (r.to δ k))
    (hk : ∀ a μ b H' ι', Ext H H' → ι <+: ι' → RS G σ H' δ μ ι' → rel H' ι' a b → SRR G W D H' ι' (k a μ) → Q b H') : RR G W σ δ rel H ι r Q := by
  cases r with
  | ok a μ => exact fun b H' ι' x p rs hb => hk a μ b H' ι' x p rs hb (SRR.at_ h x p)
  | ex c ds μ => exact fun cls dd H' ι' x p rs xr => h cls dd σ H' ι' x p rs xr
  | no => exact h
theorem SRR.now_nx {σ : L2.St} {δ : Sl} {μ : MH} (h : SRR G W D H ι (.nx δ μ)) (rs : RS G σ H δ μ ι) : D.nx σ H := h σ H ι .refl (List.prefix_refl _) rs
end
theorem psI {X : Cx} {e : Stmt} {t t' : TS} (h : PS X e t) (i : ∀ D σ H, t' D σ H → t D σ H) : PS X e t' := ⟨fun pins s σ H D I q => h.run pins s σ H D I (i _ _ _ q)⟩
theorem pssI {X : Cx} {e : List Stmt} {t t' : TS} (h : PSs X e t) (i : ∀ D σ H, t' D σ H → t D σ H) : PSs X e t' := ⟨fun pins s σ H D I q => h.run pins s σ H D I (i _ _ _ q)⟩
section
variable {k : Nat} {X : Cx} {G : Glo} {W : WX} {a b c : Expr} {fa fb fc : EF} {ta tb : TF} {pos : Pos} {es : List Expr} {fs : AF} {st : Stmt} {rest s1 s2 : List Stmt} {f g : SF}
/-! ### blocks -/
@[simp] def sNil : SF := fun δ μ => .nx δ μ
@[simp] def SR.seq (r : SR) (g : SF) : SR := match r with
  | .nx δ μ => g δ μ
  | .rt d μ => .rt d μ
  | .bk δ μ => .bk δ μ
  | .ct δ μ => .ct δ μ
  | .ex c ds δ μ => .ex c ds δ μ
  | .no => .no
@[simp] def sSeq (f g : SF) : SF := fun δ μ => (f δ μ).seq g
theorem SRR.seq {D : Ends} {H : Hp} {ι : List Addr} {r : SR} (h : SRR G W D H ι (r.seq g)) : SRR G W { D with nx := rS G W g D } H ι r := by
  cases r with
  | nx δ μ => exact fun σ H' ι' x p rs => ⟨δ, μ, ι', rs, SRR.at_ h x p⟩
  | bk δ μ => exact h
  | ct δ μ => exact h
  | rt d μ => exact h
  | ex c ds δ μ => exact h
  | no => exact h
theorem dss_nil : DSs k X G W [] sNil := fun _ => pssI pss_nil fun D σ H ⟨δ, μ, ι, rs, q⟩ => SRR.now_nx q rs
theorem dss_cons (h1 : DS k X G W st f) (h2 : DSs k X G W rest g) : DSs k X G W (st :: rest) (sSeq f g) := fun cc =>
  pssI (pss_cons (h1 cc) (h2 cc)) fun D σ H ⟨δ, μ, ι, rs, q⟩ => ⟨δ, μ, ι, rs, SRR.seq q⟩
theorem dss_one (h1 : DS k X G W st f) : DSs k X G W [st] f := fun cc => pss_one (h1 cc)
@[simp] def sBk : SF := fun δ μ => .bk δ μ
@[simp] def sCt : SF := fun δ μ => .ct δ μ
theorem ds_pass : DS k X G W (.Pass pos) sNil := fun _ => psI ps_pass fun D σ H ⟨δ, μ, ι, rs, q⟩ => SRR.now_nx q rs
theorem ds_break : DS k X G W (.Break pos) sBk := fun _ => psI ps_break fun D σ H ⟨δ, μ, ι, rs, q⟩ => q σ H ι .refl (List.prefix_refl _) rs
theorem ds_cont : DS k X G W (.Continue pos) sCt := fun _ => psI ps_continue fun D σ H ⟨δ, μ, ι, rs, q⟩ => q σ H ι .refl (List.prefix_refl _) rs
theorem ds_doc {x j pos'} : DS k X G W (.Expr (.Constant (.str x) j pos) pos') sNil := fun _ => psI ps_doc fun D σ H ⟨δ, μ, ι, rs, q⟩ => SRR.now_nx q rs
@[simp] def sExpr (fa : EF) : SF := fun δ μ => (fa δ μ).to δ fun _ μ => .nx δ μ
theorem ds_expr (h : DE k X G W a fa) (hs : swapsWith a none pos.line X.env = pure false := by rfl) : DS k X G W (.Expr a pos) (sExpr fa) := fun cc =>
  psI (ps_expr (h cc) hs) fun D σ H ⟨δ, μ, ι, rs, q⟩ => ⟨δ, μ, ι, rs, RR.to q fun d μ1 x H1 ι1 x1 p1 rs1 dx q => SRR.now_nx q rs1⟩
@[simp] def sRet (fa : EF) : SF := fun δ μ => (fa δ μ).to δ fun d μ => .rt d μ
theorem ds_ret (h : DE k X G W a fa) : DS k X G W (.Return (some a) pos) (sRet fa) := fun cc =>
  psI (ps_ret (h cc)) fun D σ H ⟨δ, μ, ι, rs, q⟩ => ⟨δ, μ, ι, rs, RR.to q fun d μ1 x H1 ι1 x1 p1 rs1 dx q => q x H1 ι1 .refl (List.prefix_refl _) rs1.hs dx⟩
@[simp] def sRetN : SF := fun δ μ => .rt .non μ
theorem ds_retN : DS k X G W (.Return none pos) sRetN := fun cc => psI ps_retN fun D σ H ⟨δ, μ, ι, rs, q⟩ => q .non H ι .refl (List.prefix_refl _) rs.hs rfl
@[simp] def sIf (t : TF) (f g : SF) : SF := fun δ μ => (t δ μ).to δ fun c μ => if c = true then f δ μ else g δ μ
theorem ds_if (hc : DT k X G W c ta) (h1 : DSs k X G W s1 f) (h2 : DSs k X G W s2 g) : DS k X G W (.If c s1 s2 pos) (sIf ta f g) := fun cc =>
  psI (ps_if (hc cc) (h1 cc) (h2 cc)) fun D σ H ⟨δ, μ, ι, rs, q⟩ => ⟨δ, μ, ι, rs, RR.to q fun d μ1 x H1 ι1 x1 p1 rs1 dx q => by
    subst dx
    cases d with
    | true => rw [if_pos rfl] at q ⊢; exact ⟨δ, μ1, ι1, rs1, q⟩
    | false => rw [if_neg Bool.false_ne_true] at q ⊢; exact ⟨δ, μ1, ι1, rs1, q⟩⟩

/-! ### while -/
/-- one turn of a loop's body: what stands behind it -/
@[simp] def SR.turn (r : SR) (g : SF) : SR := match r with
  | .nx δ μ => g δ μ
  | .ct δ μ => g δ μ
  | .bk δ μ => .nx δ μ
  | .rt d μ => .rt d μ
  | .ex c ds δ μ => .ex c ds δ μ
  | .no => .no
def sWh (t : TF) (f : SF) : Nat → SF
  | 0 => fun _ _ => .no
  | n + 1 => fun δ μ => (t δ μ).to δ fun c μ => if c = true then (f δ μ).turn (sWh t f n) else .nx δ μ
/-- fl: how many turns at most -/
@[simp] def sWhile (fl : Sl → MH → Nat) (t : TF) (f : SF) : SF := fun δ μ => sWh t f (fl δ μ) δ μ
theorem SRR.turn {D : Ends} {H : Hp} {ι : List Addr} {r : SR} (h : SRR G W D H ι (r.turn g)) : SRR G W { D with nx := rS G W g D, ct := rS G W g D, bk := D.nx } H ι r := by
  cases r with
  | nx δ μ => exact fun σ H' ι' x p rs => ⟨δ, μ, ι', rs, SRR.at_ h x p⟩
  | ct δ μ => exact fun σ H' ι' x p rs => ⟨δ, μ, ι', rs, SRR.at_ h x p⟩
  | bk δ μ => exact h
  | rt d μ => exact h
  | ex c ds δ μ => exact h
  | no => exact h
theorem ds_while (fl : Sl → MH → Nat) (hc : DT k X G W c ta) (h1 : DSs k X G W s1 f) : DS k X G W (.While c s1 [] pos) (sWhile fl ta f) := fun cc =>
  psI (ps_while cc.po (hc cc) (h1 cc)) fun D σ H ⟨δ, μ, ι, rs, q⟩ => by
    refine ⟨fun m σ H => rS G W (sWh ta f m) D σ H, ⟨_, δ, μ, ι, rs, q⟩, fun m σ H ⟨δ, μ, ι, rs, q⟩ => ?_⟩
    cases m with
    | zero => exact q.elim
    | succ m =>
      refine ⟨δ, μ, ι, rs, RR.to q fun d μ1 x H1 ι1 x1 p1 rs1 dx q => ?_⟩
      subst dx
      cases d with
      | true =>
        rw [if_pos rfl] at q ⊢
        exact ⟨rS G W (sWh ta f m) D, fun σ' H' z => ⟨m, Nat.lt_succ_self _, z⟩, δ, μ1, ι1, rs1, SRR.turn q⟩
      | false => rw [if_neg Bool.false_ne_true] at q ⊢; exact SRR.now_nx q rs1

/-! ### targets -/
abbrev GF := D → Sl → MH → R Sl
/-- the slots outside own stay -/
def Out (own : List Nat) (σ σ' : L2.St) : Prop := σ'.length = σ.length ∧ ∀ i, i ∉ own → σ'[i]? = σ[i]?
def GRR (G : Glo) (own : List Nat) (σ : L2.St) (H : Hp) (ι : List Addr) (r : R Sl) (Q : L2.St → Hp → Prop) : Prop := match r with
  | .ok δ μ => ∀ σ' H' ι', Ext H H' → ι <+: ι' → RS G σ' H' δ μ ι' → Out own σ σ' → Q σ' H'
  | _ => False
def rG (G : Glo) (own : List Nat) (f : GF) : TG := fun v σ H Q => ∃ δ μ ι d, RS G σ H δ μ ι ∧ DV G H ι d v ∧ GRR G own σ H ι (f d δ μ) Q
def rGs (G : Glo) (own : List Nat) (f : List D → Sl → MH → R Sl) : TGs := fun vs σ H Q => ∃ δ μ ι ds, RS G σ H δ μ ι ∧ DVs G H ι ds vs ∧ GRR G own σ H ι (f ds δ μ) Q
def DG (k : Nat) (X : Cx) (G : Glo) (W : WX) (own : List Nat) (e : Expr) (f : GF) : Prop := CC k X G W → PG X e (rG G own f)
def DGs (k : Nat) (X : Cx) (G : Glo) (W : WX) (own : List Nat) (e : List Expr) (f : List D → Sl → MH → R Sl) : Prop := CC k X G W → PGs X e (rGs G own f)
theorem pgI {X : Cx} {e : Expr} {t t' : TG} (h : PG X e t) (i : ∀ v σ H Q, t' v σ H Q → t v σ H Q) : PG X e t' := ⟨fun pins s σ H v u Q I r q => h.run pins s σ H v u Q I r (i _ _ _ _ q)⟩
theorem pgsI {X : Cx} {e : List Expr} {t t' : TGs} (h : PGs X e t) (i : ∀ v σ H Q, t' v σ H Q → t v σ H Q) : PGs X e t' := ⟨fun pins s σ H v u Q I r q => h.run pins s σ H v u Q I r (i _ _ _ _ q)⟩
theorem RS.set {σ : L2.St} {H : Hp} {δ : Sl} {μ : MH} {ι : List Addr} {d : D} {v : V} (rs : RS G σ H δ μ ι) (i : Nat) (dv : DV G H ι d v) : RS G (σ.set i (some v)) H (δ.set i (some d)) μ ι := by
  refine ⟨rs.hs, by rw [List.length_set, List.length_set, rs.ln], fun j d' e => ?_⟩
  by_cases q : i = j
  · subst q
    have hl : i < δ.length := by
      have := (List.getElem?_eq_some_iff.mp e).1
      rwa [List.length_set] at this
    rw [List.getElem?_set_self hl] at e
    cases e
    exact ⟨v, List.getElem?_set_self (by rw [← rs.ln]; exact hl), dv⟩
  · rw [List.getElem?_set_ne q] at e
    obtain ⟨w, e1, r⟩ := rs.sl j d' e
    exact ⟨w, by rw [List.getElem?_set_ne q]; exact e1, r⟩
@[simp] def gNm (i : Nat) : GF := fun d δ μ => .ok (δ.set i (some d)) μ
theorem dg_name (i : Nat) {own : List Nat} {x : Str} (hi : X.N[i]? = some x := by rfl) (hx : Loc X.env.scope x := by first | exact .inl rfl | exact .inr rfl) (hf : X.fn x = true ∨ X.env.scope.names.lookup x = some .local := by first | exact .inl rfl | exact .inr rfl) (ho : i ∈ own := by simp) : DG k X G W own (.Name x pos) (gNm i) := fun cc =>
  pgI (pg_name cc.nd hi hx hf) fun v σ H Q ⟨δ, μ, ι, d, rs, dv, q⟩ => q _ H ι .refl (List.prefix_refl _) (rs.set i dv) ⟨List.length_set, fun j hj => List.getElem?_set_ne (fun z => by subst z; exact hj ho)⟩
@[simp] def gsNil : List D → Sl → MH → R Sl := fun ds δ μ => match ds with
  | [] => .ok δ μ
  | _ => .no
@[simp] def gsCons (f : GF) (g : List D → Sl → MH → R Sl) : List D → Sl → MH → R Sl := fun ds δ μ => match ds with
  | d :: r => match f d δ μ with
    | .ok δ μ => g r δ μ
    | _ => .no
  | [] => .no
theorem dgs_nil {own : List Nat} : DGs k X G W own [] gsNil := fun cc => pgsI pgs_nil fun vs σ H Q ⟨δ, μ, ι, ds, rs, dv, q⟩ => by
  cases ds with
  | nil => exact ⟨dv, q σ H ι .refl (List.prefix_refl _) rs ⟨rfl, fun _ _ => rfl⟩⟩
  | cons _ _ => exact q.elim
theorem dgs_cons {own : List Nat} {gf : GF} {gg : List D → Sl → MH → R Sl} (h1 : DG k X G W own a gf) (h2 : DGs k X G W own es gg)
    (hs : (assignEach (a :: es) X.env).map (·.2) = assign a X.env :: (assignEach es X.env).map (·.2) := by rfl) : DGs k X G W own (a :: es) (gsCons gf gg) := fun cc =>
  pgsI (pgs_cons (h1 cc) (h2 cc) hs) fun vs σ H Q ⟨δ, μ, ι, ds, rs, dv, q⟩ => by
    cases ds with
    | nil => exact q.elim
    | cons d r =>
      obtain ⟨v, vr, e, d1, d2⟩ := dv
      refine ⟨v, vr, e, δ, μ, ι, d, rs, d1, ?_⟩
      simp only [gsCons] at q
      cases eg : gf d δ μ with
      | ok δ1 μ1 =>
        simp only [eg] at q
        refine fun σ' H' ι' x p rs' ou => ⟨δ1, μ1, ι', r, rs', DVs.mono x p _ _ d2, ?_⟩
        revert q
        cases gg r δ1 μ1 with
        | ok δ2 μ2 => exact fun q σ2 H2 ι2 x2 p2 rs2 ou2 => q σ2 H2 ι2 (x.trans x2) (p.trans p2) rs2 ⟨ou2.1.trans ou.1, fun i hi => (ou2.2 i hi).trans (ou.2 i hi)⟩
        | ex _ _ _ => exact fun q => q.elim
        | no => exact fun q => q.elim
      | ex _ _ _ => simp only [eg] at q; exact q.elim
      | no => simp only [eg] at q; exact q.elim
@[simp] def gTp (n : Nat) (g : List D → Sl → MH → R Sl) : GF := fun d δ μ => match d with
  | .tup l => if l.length = n then g l δ μ else .no
  | _ => .no
theorem dg_tup {own : List Nat} {n kk : Nat} {gg : List D → Sl → MH → R Sl} (h : DGs k X G W own es gg) (hn : (assignEach es X.env).length = n := by rfl) (hst : (assignEach es X.env).findIdx? (·.1) = none := by rfl) : DG k X G W own (.Tuple es kk pos) (gTp n gg) := fun cc =>
  pgI (pg_tup cc.calm (h cc) hn hst) fun v σ H Q ⟨δ, μ, ι, d, rs, dv, q⟩ => by
    cases d with
    | tup l =>
      obtain ⟨ad, vs, e, sq, dl⟩ := dv
      simp only [gTp] at q
      by_cases hl : l.length = n
      · rw [if_pos hl] at q
        exact ⟨ad, vs, e, by rw [cc.hK]; exact sq, by rw [← dl.length]; exact hl, δ, μ, ι, l, rs, dl, q⟩
      · rw [if_neg hl] at q; exact q.elim
    | _ => exact q.elim
/-- target = value -/
@[simp] def sAsg (fa : EF) (g : GF) : SF := fun δ μ => (fa δ μ).to δ fun d μ => match g d δ μ with
  | .ok δ μ => .nx δ μ
  | _ => .no
theorem asg_read {own : List Nat} {gf : GF} {D : Ends} {σ : L2.St} {H : Hp} (q : rS G W (sAsg fa gf) D σ H) : tAsg (rE G W fa) (rG G own gf) D σ H := by
  obtain ⟨δ, μ, ι, rs, q⟩ := q
  refine ⟨δ, μ, ι, rs, RR.to q fun d μ1 x H1 ι1 x1 p1 rs1 dx q => ⟨δ, μ1, ι1, d, rs1, dx, ?_⟩⟩
  cases eg : gf d δ μ1 with
  | ok δ2 μ2 => simp only [eg] at q; exact fun σ' H' ι' x p rs' ou => q σ' H' ι' x p rs'
  | ex _ _ _ => simp only [eg] at q; exact q.elim
  | no => simp only [eg] at q; exact q.elim
theorem ds_asg {own : List Nat} {gf : GF} {tg : Expr} (h : DE k X G W a fa) (hg : DG k X G W own tg gf) (hs : swapsWithSole [tg] a pos.line X.env = pure false := by rfl) (hw : swappedStores [tg] a X.env = pure none := by rfl)
    (h1 : (assignEach [tg] X.env).map (·.2) = [assign tg X.env] := by rfl) : DS k X G W (.Assign [tg] a pos) (sAsg fa gf) := fun cc => psI (ps_asg (h cc) (hg cc) hs hw h1) fun D σ H q => asg_read q
theorem ds_set (i : Nat) {x : Str} {pos' : Pos} (h : DE k X G W a fa) (hi : X.N[i]? = some x := by rfl) (hx : Loc X.env.scope x := by first | exact .inl rfl | exact .inr rfl) (hs : swapsWith a (some (.Name x pos')) pos.line X.env = pure false := by rfl)
    (hf : X.fn x = true ∨ X.env.scope.names.lookup x = some .local := by first | exact .inl rfl | exact .inr rfl) : DS k X G W (.Assign [.Name x pos'] a pos) (sAsg fa (gNm i)) := fun cc =>
  psI (ps_set cc.nd hi hx (h cc) hs hf) fun D σ H q => by
    obtain ⟨δ, μ, ι, rs, q⟩ := q
    exact ⟨δ, μ, ι, rs, RR.to q fun d μ1 x H1 ι1 x1 p1 rs1 dx q => q _ H1 ι1 .refl (List.prefix_refl _) (rs1.set i dx)⟩
/-- a, b = x, y -/
@[simp] def sPar (is : List Nat) (g : AF) : SF := fun δ μ => (g δ μ).to δ fun l μ => match is, l with
  | [i, j], [d, e] => .nx ((δ.set i (some d)).set j (some e)) μ
  | [i, j, m], [d, e, f] => .nx (((δ.set i (some d)).set j (some e)).set m (some f)) μ
  | _, _ => .no
theorem ds_par2 (i j : Nat) {x y : Str} {px py pt : Pos} {kt k2 pt2} (h : DA k X G W [a, b] fs) (hi : X.N[i]? = some x := by rfl) (hj : X.N[j]? = some y := by rfl) (hij : i ≠ j := by decide)
    (hx : X.env.scope.names.lookup x = some .local := by rfl) (hy : X.env.scope.names.lookup y = some .local := by rfl)
    (hw : swappedStores [.Tuple [.Name x px, .Name y py] kt pt] (.Tuple [a, b] k2 pt2) X.env = pure (some [x, y]) := by rfl)
    (hs : swapsWithSole [.Tuple [.Name x px, .Name y py] kt pt] (.Tuple [a, b] k2 pt2) pos.line X.env = pure false := by rfl) :
    DS k X G W (.Assign [.Tuple [.Name x px, .Name y py] kt pt] (.Tuple [a, b] k2 pt2) pos) (sPar [i, j] fs) := fun cc =>
  psI (ps_par cc.calm cc.nd hi hj hij hx hy (h cc) hw hs) fun D σ H ⟨δ, μ, ι, rs, q⟩ => ⟨δ, μ, ι, rs, RR.to q fun l μ1 xs H1 ι1 x1 p1 rs1 dl q => by
    cases l with
    | nil => exact q.elim
    | cons d l =>
      cases l with
      | nil => exact q.elim
      | cons e l =>
        cases l with
        | cons _ _ => exact q.elim
        | nil =>
          obtain ⟨v, _, rfl, d1, w, _, rfl, d2, rfl⟩ := dl
          exact ⟨v, w, rfl, q _ H1 ι1 .refl (List.prefix_refl _) ((rs1.set i d1).set j d2)⟩⟩
theorem ds_par3 (i j m : Nat) {x y z : Str} {px py pz pt : Pos} {kt k2 pt2} (h : DA k X G W [a, b, c] fs) (hi : X.N[i]? = some x := by rfl) (hj : X.N[j]? = some y := by rfl) (hm : X.N[m]? = some z := by rfl) (hij : i ≠ j := by decide) (him : i ≠ m := by decide) (hjm : j ≠ m := by decide)
    (hx : X.env.scope.names.lookup x = some .local := by rfl) (hy : X.env.scope.names.lookup y = some .local := by rfl) (hz : X.env.scope.names.lookup z = some .local := by rfl)
    (hw : swappedStores [.Tuple [.Name x px, .Name y py, .Name z pz] kt pt] (.Tuple [a, b, c] k2 pt2) X.env = pure (some [x, y, z]) := by rfl)
    (hs : swapsWithSole [.Tuple [.Name x px, .Name y py, .Name z pz] kt pt] (.Tuple [a, b, c] k2 pt2) pos.line X.env = pure false := by rfl) :
    DS k X G W (.Assign [.Tuple [.Name x px, .Name y py, .Name z pz] kt pt] (.Tuple [a, b, c] k2 pt2) pos) (sPar [i, j, m] fs) := fun cc =>
  psI (ps_par3 cc.calm cc.nd hi hj hm hij him hjm hx hy hz (h cc) hw hs) fun D σ H ⟨δ, μ, ι, rs, q⟩ => ⟨δ, μ, ι, rs, RR.to q fun l μ1 xs H1 ι1 x1 p1 rs1 dl q => by
    cases l with
    | nil => exact q.elim
    | cons d l =>
      cases l with
      | nil => exact q.elim
      | cons e l =>
        cases l with
        | nil => exact q.elim
        | cons f l =>
          cases l with
          | cons _ _ => exact q.elim
          | nil =>
            obtain ⟨v, _, rfl, d1, w, _, rfl, d2, u, _, rfl, d3, rfl⟩ := dl
            exact ⟨v, w, u, rfl, q _ H1 ι1 .refl (List.prefix_refl _) (((rs1.set i d1).set j d2).set m d3)⟩⟩
/-- o[i] = value -/
@[simp] def sPut (fv fo fi : EF) : SF := fun δ μ => (fv δ μ).to δ fun v μ => (fo δ μ).to δ fun o μ => (fi δ μ).to δ fun i μ => match setD o i v μ with
  | some μ => .nx δ μ
  | none => .no
theorem ds_put {o i : Expr} {fv fo fi : EF} {pos' : Pos} (hv : DE k X G W a fv) (ho : DE k X G W o fo) (hi : DE k X G W i fi) (hs : swapsWith a (some (.Subscript o i pos')) pos.line X.env = pure false := by rfl) :
    DS k X G W (.Assign [.Subscript o i pos'] a pos) (sPut fv fo fi) := fun cc => by
  refine ⟨fun pins s σ H D I h => ?_⟩
  have h' : rE G W fv σ H fun v H1 => rE G W fo σ H1 fun o H2 => rE G W fi σ H2 fun i H3 => ∃ δ μ μ' ι dv d_o di, RS G σ H3 δ μ ι ∧ DV G H3 ι dv v ∧ DV G H3 ι d_o o ∧ DV G H3 ι di i ∧ setD d_o di dv μ = some μ' ∧ SRR G W D H3 ι (.nx δ μ') := by
    obtain ⟨δ, μ, ι, rs, q⟩ := h
    refine ⟨δ, μ, ι, rs, RR.to q fun dv μ1 x H1 ι1 x1 p1 rs1 dx q => ⟨δ, μ1, ι1, rs1, RR.to q fun d_o μ2 y H2 ι2 x2 p2 rs2 dy q => ⟨δ, μ2, ι2, rs2, RR.to q fun di μ3 z H3 ι3 x3 p3 rs3 dz q => ?_⟩⟩⟩
    cases e : setD d_o di dv μ3 with
    | none => simp only [e] at q; exact q.elim
    | some μ' =>
      simp only [e] at q
      exact ⟨δ, μ3, μ', ι3, dv, d_o, di, rs3, DV.mono (x2.trans x3) (p2.trans p3) _ _ dx, DV.mono x3 p3 _ _ dy, dz, e, q⟩
  refine wpAny_Assign_Subscript (thn ((hv cc).run pins s σ H _ I h') fun r s1 ⟨v, H1, I1, rv, q1⟩ => thn ((ho cc).run pins s1 σ H1 _ I1 q1) fun u s2 ⟨x, H2, I2, rx, q2⟩ => thn ((hi cc).run pins s2 σ H2 _ I2 q2) fun iv s3 ⟨y, H3, I3, ry, δ, μ, μ', ι, dv, d_o, di, rs, e1, e2, e3, e4, q3⟩ => ?_) hs
  exact set_run cc I3 rx ry rv rs e2 e3 e1 e4 fun H' s' I' x rs' => ⟨σ, H', I', q3 σ H' ι x (List.prefix_refl _) rs'⟩

/-! ### for -/
/-- what is walked: a check at each turn, the items -/
abbrev IF := Sl → MH → R ((MH → Bool) × List D)
/-- an iterator does what the items say -/
def WkOk (G : Glo) (J : It) (chk : MH → Bool) (full : List D) (base : Hp → List Addr → Prop) : Prop := ∀ (σ : L2.St) (H : Hp) (δ : Sl) (μ : MH) (ι : List Addr), RS G σ H δ μ ι → base H ι → chk μ = true →
  J.stop full.length H ∧ ∀ i d, full[i]? = some d → J.go i H ∧ ∀ v H', J.yld i H v H' → Ext H H' ∧ RS G σ H' δ μ ι ∧ DV G H' ι d v
def relI (G : Glo) : Hp → List Addr → (MH → Bool) × List D → It → Prop := fun H ι c J => ∃ base : Hp → List Addr → Prop, base H ι ∧ (∀ H H' ι ι', Ext H H' → ι <+: ι' → base H ι → base H' ι') ∧ WkOk G J c.1 c.2 base
def rI (G : Glo) (W : WX) (f : IF) : TI := fun σ H R => ∃ δ μ ι, RS G σ H δ μ ι ∧ RR G W σ δ (relI G) H ι (f δ μ) R
def DI (k : Nat) (X : Cx) (G : Glo) (W : WX) (tg e : Expr) (f : IF) : Prop := CC k X G W → PI X tg e (rI G W f)
theorem piI {X : Cx} {tg e : Expr} {t t' : TI} (h : PI X tg e t) (i : ∀ σ H R, t' σ H R → t σ H R) : PI X tg e t' := ⟨fun pins s σ H R I q => h.run pins s σ H R I (i _ _ _ q)⟩
def sForL (chk : MH → Bool) (g : GF) (f : SF) : List D → SF
  | [] => fun δ μ => if chk μ = true then .nx δ μ else .no
  | d :: r => fun δ μ => if chk μ = true then match g d δ μ with
      | .ok δ μ => (f δ μ).turn (sForL chk g f r)
      | _ => .no
    else .no
@[simp] def sFor (fi : IF) (g : GF) (f : SF) : SF := fun δ μ => (fi δ μ).to δ fun c μ => sForL c.1 g f c.2 δ μ
theorem ds_for {own : List Nat} {tg e : Expr} {fi : IF} {gf : GF} (hi : DI k X G W tg e fi) (hg : DG k X G W own tg gf) (h1 : DSs k X G W s1 f)
    (hs : ∀ x, foldedSetIterable e X.env x = pure x := by intro _; rfl) : DS k X G W (.For tg e s1 [] pos) (sFor fi gf f) := fun cc =>
  psI (ps_for cc.po cc.calm (hi cc) (hg cc) (h1 cc) hs) fun D σ H ⟨δ, μ, ι, rs, q⟩ => ⟨δ, μ, ι, rs, RR.to q fun c μ1 J H1 ι1 x1 p1 rs1 ⟨base, b1, bm, wk⟩ q => by
    obtain ⟨chk, full⟩ := c
    refine ⟨fun i m σ H => i + m = full.length ∧ ∃ δ μ ι, RS G σ H δ μ ι ∧ base H ι ∧ SRR G W D H ι (sForL chk gf f (full.drop i) δ μ), ⟨full.length, by omega, δ, μ1, ι1, rs1, b1, by simpa using q⟩, ?_⟩
    rintro i m σ H ⟨hm, δ, μ, ι, rs, b, q⟩
    cases ed : full.drop i with
    | nil =>
      rw [ed] at q
      unfold sForL at q
      have hl : full.length ≤ i := List.drop_eq_nil_iff.mp ed
      obtain rfl : i = full.length := by omega
      by_cases hc : chk μ = true
      · rw [if_pos hc] at q
        exact .inl ⟨(wk σ H δ μ ι rs b hc).1, SRR.now_nx q rs⟩
      · rw [if_neg hc] at q; exact q.elim
    | cons d r =>
      rw [ed] at q
      unfold sForL at q
      have hd : full[i]? = some d := by
        have := congrArg List.head? ed
        rw [List.head?_drop] at this
        exact this
      have hr : full.drop (i + 1) = r := by
        have := congrArg List.tail ed
        rw [List.tail_drop] at this
        exact this
      have hlt : i < full.length := (List.getElem?_eq_some_iff.mp hd).1
      by_cases hc : chk μ = true
      · rw [if_pos hc] at q
        obtain ⟨go, yld⟩ := (wk σ H δ μ ι rs b hc).2 i d hd
        refine .inr ⟨go, fun σ' H' => ∃ δ μ ι, RS G σ' H' δ μ ι ∧ base H' ι ∧ SRR G W D H' ι (sForL chk gf f r δ μ), fun σ' H' ⟨δ', μ', ι', rs', b', q'⟩ => ⟨m - 1, by omega, by omega, δ', μ', ι', rs', b', by rw [hr]; exact q'⟩, fun x H' y => ?_⟩
        obtain ⟨x', rs', dx⟩ := yld x H' y
        refine ⟨δ, μ, ι, d, rs', dx, ?_⟩
        cases eg : gf d δ μ with
        | ex _ _ _ => simp only [eg] at q; exact q.elim
        | no => simp only [eg] at q; exact q.elim
        | ok δ2 μ2 =>
          simp only [eg] at q
          refine fun σ2 H2 ι2 x2 p2 rs2 _ => ⟨δ2, μ2, ι2, rs2, ?_⟩
          have q2 := SRR.at_ q (x'.trans x2) p2
          have b2 : base H2 ι2 := bm _ _ _ _ (x'.trans x2) p2 b
          revert q2
          cases f δ2 μ2 with
          | nx δ3 μ3 => exact fun q3 σ3 H3 ι3 x3 p3 rs3 => ⟨δ3, μ3, ι3, rs3, bm _ _ _ _ x3 p3 b2, SRR.at_ q3 x3 p3⟩
          | ct δ3 μ3 => exact fun q3 σ3 H3 ι3 x3 p3 rs3 => ⟨δ3, μ3, ι3, rs3, bm _ _ _ _ x3 p3 b2, SRR.at_ q3 x3 p3⟩
          | bk δ3 μ3 => exact fun q3 => q3
          | rt d μ3 => exact fun q3 => q3
          | ex c ds δ3 μ3 => exact fun q3 => q3
          | no => exact fun q3 => q3
      · rw [if_neg hc] at q; exact q.elim⟩

/-! ### what is walked: lists, tuples, ranges -/
def sameL (μ : MH) (x : D) (full : List D) : Bool := match seqOf μ x with
  | some l => beqs l full
  | none => false
@[simp] theorem sameL_tup {μ : MH} {l : List D} : sameL μ (.tup l) l = true := beqs_refl l
@[simp] theorem sameL_lst {μ : MH} {l : List D} : sameL μ (.lst l) l = true := beqs_refl l
@[simp] def iSq (fa : EF) : IF := fun δ μ => (fa δ μ).bind fun x μ => match seqOf μ x with
  | some l => .ok (fun μ => sameL μ x l, l) μ
  | none => .no
def iSeq (K : PySem.W.Frag) (tl : TE) : TI := fun σ H R => tl σ H fun x H1 => ∃ a, x = .ref a ∧ ((∃ xs, SqL K H1 a xs ∧ R (Itl K a) H1) ∨ ∃ xs, SqT K H1 a xs ∧ R (Itt K a) H1)
theorem pi_seq {tg e : Expr} {te : TE} (he : PE X e te) : PI X tg e (iSeq X.K te) := by
  refine ⟨fun pins s σ H R I h => thn (he.run pins s σ H _ I h) fun v s1 ⟨x, H1, I1, r1, ad, e, q⟩ => ?_⟩
  subst e
  cases r1
  have fresh : ∀ (it : Addr), it = s1.heap.objs.size → ∀ b ∈ [it], FpOk X pins H1 b := fun it hit b hb => by
    obtain rfl : b = it := by simpa using hb
    subst hit
    exact I1.fpOk (Nat.le_refl _) (I1.hok.fresh (Nat.le_refl _))
  rcases q with ⟨xs, hq, q⟩ | ⟨xs, hq, q⟩
  · obtain ⟨its, rv, p, hz⟩ := I1.list hq
    exact wpAny_pyIter_list p.isList ⟨_, [_], _, _, H1, rfl, I1.kept (t' := s1.toks) fun b o z => Heap.get?_push_of_some _ z, turn_list ad _, ⟨_, Heap.get?_push_size _ rfl, rfl, rfl⟩, fresh _ rfl, q⟩
  · obtain ⟨its, rv, p, hz⟩ := I1.tuple hq
    exact wpAny_pyIter_tuple (show s1.heap.IsTuple ad its.toArray from p) ⟨_, [_], _, _, H1, rfl, I1.kept (t' := s1.toks) fun b o z => Heap.get?_push_of_some _ z, turn_tuple ad _, ⟨_, Heap.get?_push_size _ rfl, rfl, rfl⟩, fresh _ rfl, q⟩
/-- tuple or list, by the sign of its data -/
theorem seq_two {σ : L2.St} {H : Hp} {δ : Sl} {μ : MH} {ι : List Addr} {x : D} {v : V} {l : List D} (rs : RS G σ H δ μ ι) (dx : DV G H ι x v) (h : seqOf μ x = some l) :
    ∃ a vs, v = .ref a ∧ DVs G H ι l vs ∧ ((SqT G.K H a vs ∧ ∃ l', x = .tup l') ∨ (SqL G.K H a vs ∧ lstOf μ x = some l ∧ ∀ l', x ≠ .tup l')) := by
  cases x with
  | tup l' =>
    cases h
    obtain ⟨a, vs, e, s, r⟩ := dx
    exact ⟨a, vs, e, r, .inl ⟨s, l, rfl⟩⟩
  | lst l' =>
    obtain ⟨a, vs, e, s, r⟩ := lst_view (l := l) rs dx h
    exact ⟨a, vs, e, r, .inr ⟨s, h, fun _ z => by cases z⟩⟩
  | ref n =>
    obtain ⟨a, vs, e, s, r⟩ := lst_view (l := l) rs dx h
    exact ⟨a, vs, e, r, .inr ⟨s, h, fun _ z => by cases z⟩⟩
  | _ => cases h
theorem same_eq {μ : MH} {x : D} {full : List D} (h : sameL μ x full = true) : seqOf μ x = some full := by
  unfold sameL at h
  cases e : seqOf μ x with
  | none => rw [e] at h; cases h
  | some l =>
    rw [e] at h
    rw [beqs_eq _ _ h]
theorem wk_list {x : D} {ad : Addr} {l : List D} (hx : ∀ l', x ≠ .tup l') : WkOk G (Itl G.K ad) (fun μ => sameL μ x l) l (fun H ι => DV G H ι x (.ref ad)) := fun σ H δ μ ι rs b hc => by
  obtain ⟨a', vs, e, dl, ⟨_, l', z⟩ | ⟨sq, _⟩⟩ := seq_two rs b (same_eq hc)
  · exact (hx l' z).elim
  · cases e
    refine ⟨⟨vs, sq, Nat.le_of_eq dl.length.symm⟩, fun i d hi => ?_⟩
    obtain ⟨v, hv, dv⟩ := dl.get hi
    refine ⟨⟨vs, v, sq, hv⟩, fun w H' y => ?_⟩
    obtain ⟨rfl, y⟩ := y
    have := y vs sq
    rw [hv] at this; cases this
    exact ⟨.refl, rs, dv⟩
theorem wk_tup {ad : Addr} {l l0 : List D} : WkOk G (Itt G.K ad) (fun μ => sameL μ (.tup l0) l) l (fun H ι => DV G H ι (.tup l0) (.ref ad)) := fun σ H δ μ ι rs b hc => by
  obtain ⟨a', vs, e, dl, ⟨sq, _⟩ | ⟨_, _, z⟩⟩ := seq_two rs b (same_eq hc)
  · cases e
    refine ⟨⟨vs, sq, Nat.le_of_eq dl.length.symm⟩, fun i d hi => ?_⟩
    obtain ⟨v, hv, dv⟩ := dl.get hi
    refine ⟨⟨vs, v, sq, hv⟩, fun w H' y => ?_⟩
    obtain ⟨rfl, y⟩ := y
    have := y vs sq
    rw [hv] at this; cases this
    exact ⟨.refl, rs, dv⟩
  · exact (z _ rfl).elim
theorem di_seq {tg : Expr} (h : DE k X G W a fa) : DI k X G W tg a (iSq fa) := fun cc =>
  piI (pi_seq (h cc)) fun σ H R ⟨δ, μ, ι, rs, q⟩ => ⟨δ, μ, ι, rs, RR.bnd q fun x μ1 v H1 ι1 x1 p1 rs1 dx q => by
    cases e : seqOf μ1 x with
    | none => rw [e] at q; exact q.elim
    | some l =>
      rw [e] at q
      obtain ⟨ad, vs, rfl, dl, ⟨sq, l', rfl⟩ | ⟨sq, _, nt⟩⟩ := seq_two rs1 dx e
      · exact ⟨ad, rfl, .inr ⟨vs, by rw [cc.hK]; exact sq, by rw [cc.hK]; exact q.now rs1 ⟨_, dx, fun _ _ _ _ x p b => DV.mono x p _ _ b, wk_tup⟩⟩⟩
      · exact ⟨ad, rfl, .inl ⟨vs, by rw [cc.hK]; exact sq, by rw [cc.hK]; exact q.now rs1 ⟨_, dx, fun _ _ _ _ x p b => DV.mono x p _ _ b, wk_list nt⟩⟩⟩⟩
/-- lo, lo + 1, .. : n of them -/
def rngD (lo : Int) (n : Nat) : List D := (List.range n).map fun (i : Nat) => .int (lo + (i : Int))
theorem rngD_get {lo : Int} {n i : Nat} {d : D} (h : (rngD lo n)[i]? = some d) : i < n ∧ d = .int (lo + i) := by
  unfold rngD at h
  rw [List.getElem?_map, Option.map_eq_some_iff] at h
  obtain ⟨j, h1, h2⟩ := h
  obtain ⟨h3, h4⟩ := List.getElem?_eq_some_iff.mp h1
  rw [List.length_range] at h3
  rw [List.getElem_range] at h4
  subst h4
  exact ⟨h3, h2.symm⟩
theorem wk_rng {lo : Int} {n : Nat} : WkOk G (Itr lo n) (fun _ => true) (rngD lo n) (fun _ _ => True) := fun σ H δ μ ι rs b hc => by
  refine ⟨by simp [Itr, rngD], fun i d hi => ?_⟩
  obtain ⟨h1, rfl⟩ := rngD_get hi
  refine ⟨h1, fun v H' y => ?_⟩
  obtain ⟨rfl, rfl⟩ := y
  exact ⟨.refl, rs, rfl⟩
/-- a bound that a range may have -/
def rngOk (j : Int) : Bool := decide (j.natAbs ≤ 1000000)
theorem rngOk_iff {j : Int} : rngOk j = true ↔ -1000000 ≤ j ∧ j ≤ 1000000 := by unfold rngOk; rw [decide_eq_true_iff]; omega
@[simp] def iRn1 (g : AF) : IF := fun δ μ => (g δ μ).bind fun l μ => match l with
  | [.int j] => if rngOk j = true then .ok (fun _ => true, rngD 0 j.toNat) μ else .no
  | _ => .no
@[simp] def iRn2 (g : AF) : IF := fun δ μ => (g δ μ).bind fun l μ => match l with
  | [.int i, .int j] => if rngOk i = true ∧ rngOk j = true then .ok (fun _ => true, rngD i (j - i).toNat) μ else .no
  | _ => .no
theorem di_rng1 {tg : Expr} {p : Pos} (h : DA k X G W [a] fs) (hm : G.mg "range" = none) (hg : Gl X "range" := by rfl) (hs : starEach [a] X.env = [(false, eval a X.env)] := by rfl) : DI k X G W tg (.Call (.Name "range" p) [a] [] pos) (iRn1 fs) := fun cc =>
  piI (pi_range1 hg (by rw [cc.hm]; exact hm) (h cc) hs) fun σ H R ⟨δ, μ, ι, rs, q⟩ => ⟨δ, μ, ι, rs, RR.bnd q fun l μ1 vs H1 ι1 x1 p1 rs1 dl q => by
    split at q
    · rename_i j
      obtain ⟨v, _, rfl, d1, rfl⟩ := dl
      by_cases hj : rngOk j = true
      · rw [if_pos hj] at q
        have hk := rngOk_iff.mp hj
        exact ⟨j, by rw [show v = .int j from d1], by omega, by omega, q.now rs1 ⟨_, trivial, fun _ _ _ _ _ _ b => b, wk_rng⟩⟩
      · rw [if_neg hj] at q; exact q.elim
    · exact q.elim⟩
theorem di_rng2 {tg : Expr} {p : Pos} (h : DA k X G W [a, b] fs) (hm : G.mg "range" = none) (hg : Gl X "range" := by rfl) (hs : starEach [a, b] X.env = [(false, eval a X.env), (false, eval b X.env)] := by rfl) (hs2 : starEach [b] X.env = [(false, eval b X.env)] := by rfl) :
    DI k X G W tg (.Call (.Name "range" p) [a, b] [] pos) (iRn2 fs) := fun cc =>
  piI (pi_range2 hg (by rw [cc.hm]; exact hm) (h cc) hs hs2) fun σ H R ⟨δ, μ, ι, rs, q⟩ => ⟨δ, μ, ι, rs, RR.bnd q fun l μ1 vs H1 ι1 x1 p1 rs1 dl q => by
    split at q
    · rename_i i j
      obtain ⟨v, _, rfl, d1, w, _, rfl, d2, rfl⟩ := dl
      by_cases hj : rngOk i = true ∧ rngOk j = true
      · rw [if_pos hj] at q
        have hk1 := rngOk_iff.mp hj.1
        have hk2 := rngOk_iff.mp hj.2
        exact ⟨i, j, by rw [show v = .int i from d1, show w = .int j from d2], by omega, q.now rs1 ⟨_, trivial, fun _ _ _ _ _ _ b => b, wk_rng⟩⟩
      · rw [if_neg hj] at q; exact q.elim
    · exact q.elim⟩
end
end SZ
end
section
/-! SZ, part J: defs and calls. -/
namespace SZ
open PySem PySem.Spec PyProof.Rows L2
abbrev FF := List D → MH → R D
/-- what was there and may be kept: it is as it was, or names nothing new -/
def keep1 (n : Nat) : Option MO → Option MO → Bool
  | some x, some y => x.beq y || y.bel n
  | _, none => true
  | none, some y => y.bel n
def keepOk (n : Nat) : MH → MH → Bool
  | [], _ => true
  | a :: r, b :: t => keep1 n a b && keepOk n r t
  | _ :: _, [] => false
/-- behind a def, its own mutable objects are forgotten where nothing names them -/
def trunc (μ0 : MH) (r : R D) : R D := match r with
  | .ok d μ => if (d.bel μ0.length && keepOk μ0.length μ0 μ) = true then .ok d (μ.take μ0.length) else .ok d μ
  | .ex c ds μ => if (bels μ0.length ds && keepOk μ0.length μ0 μ) = true then .ex c ds (μ.take μ0.length) else .ex c ds μ
  | .no => .no
@[simp] theorem keepOk_self {n : Nat} : ∀ {μ : MH} {more : MH}, keepOk n μ (μ ++ more) = true
  | [], _ => rfl
  | a :: r, more => by
    show (keep1 n a a && keepOk n r (r ++ more)) = true
    rw [keepOk_self]
    cases a with
    | none => rfl
    | some m => simp [keep1, MO.beq_refl]
@[simp] theorem keepOk_self0 {n : Nat} {μ : MH} : keepOk n μ μ = true := by
  have := keepOk_self (n := n) (μ := μ) (more := [])
  rwa [List.append_nil] at this
@[simp] theorem trunc_ok {μ : MH} {d : D} {more : MH} (h : d.bel μ.length = true) : trunc μ (.ok d (μ ++ more)) = .ok d μ := by
  simp only [trunc, h, keepOk_self]
  simp
@[simp] theorem trunc_ok0 {μ : MH} {d : D} : trunc μ (.ok d μ) = .ok d μ := by
  unfold trunc
  simp only []
  split
  · rw [List.take_length]
  · rfl
theorem trunc_ex {μ : MH} {c : Nat} {ds : List D} {more : MH} (h : bels μ.length ds = true) : trunc μ (.ex c ds (μ ++ more)) = .ex c ds μ := by
  simp only [trunc, h, keepOk_self]
  simp
@[simp] theorem trunc_ex0 {μ : MH} {c : Nat} {ds : List D} : trunc μ (.ex c ds μ) = .ex c ds μ := by
  unfold trunc
  simp only []
  split
  · rw [List.take_length]
  · rfl
section
variable {G : Glo} {H H' : Hp} {μ μ' : MH} {ι ι' : List Addr}
theorem keep_at : ∀ {μ μ' : MH} {n k : Nat} {m : MO}, keepOk n μ μ' = true → k < μ.length → μ'[k]? = some (some m) → (μ[k]? = some (some m)) ∨ m.bel n = true
  | [], _, _, k, _, _, h, _ => absurd h (Nat.not_lt_zero _)
  | a :: r, [], _, _, _, h, _, _ => by cases h
  | a :: r, b :: t, n, 0, m, h, _, e => by
    have h : (keep1 n a b && keepOk n r t) = true := h
    rw [Bool.and_eq_true] at h
    simp only [List.getElem?_cons_zero, Option.some.injEq] at e
    subst e
    have h := h.1
    cases a with
    | none => exact .inr h
    | some x =>
      simp only [keep1, Bool.or_eq_true] at h
      rcases h with h | h
      · left
        rw [MO.beq_eq h]
        rfl
      · exact .inr h
  | a :: r, b :: t, n, k + 1, m, h, hl, e => by
    have h : (keep1 n a b && keepOk n r t) = true := h
    rw [Bool.and_eq_true] at h
    have := keep_at (k := k) (m := m) h.2 (by simpa using hl) (by simpa using e)
    simpa using this
theorem HS.cut (h0 : HS G H μ ι) (h : HS G H' μ' ι') (p : ι <+: ι') (kk : keepOk μ.length μ μ' = true) : HS G H' (μ'.take μ.length) ι := by
  have hl : ι.length ≤ ι'.length := p.length_le
  have hi : ι'.take μ.length = ι := by
    obtain ⟨t, rfl⟩ := p
    rw [← h0.ln, List.take_left]
  have at_ : ∀ {n : Nat} {m : MO}, (μ'.take μ.length)[n]? = some (some m) → n < μ.length ∧ μ'[n]? = some (some m) := fun {n m} e => by
    have hn : n < (μ'.take μ.length).length := (List.getElem?_eq_some_iff.mp e).1
    rw [List.length_take] at hn
    rw [List.getElem?_take_of_lt (by omega)] at e
    exact ⟨by omega, e⟩
  refine ⟨?_, fun n m e => ?_, fun n n' m m' a e1 e2 e3 e4 => h.ap n n' m m' a (at_ e1).2 (at_ e2).2 (pre_get p e3) (pre_get p e4)⟩
  · rw [List.length_take, h0.ln, ← h.ln]
    rw [h0.ln] at hl
    omega
  · obtain ⟨hn, e⟩ := at_ e
    obtain ⟨a, ea, mv⟩ := h.mo n m e
    have ea' : ι[n]? = some a := by
      rw [← hi, List.getElem?_take_of_lt hn]
      exact ea
    refine ⟨a, ea', ?_⟩
    have hb : m.bel μ.length = true := by
      rcases keep_at kk hn e with z | z
      · have := h0.there z ea'
        rw [← h0.ln]
        exact this.belw
      · exact z
    have := mv.take μ.length hb
    rwa [hi] at this
end
/-- a def's promise by its function on data -/
def spD (G : Glo) (n : Nat) (F : FF) : Sp := fun vs H Q E => vs.length = n ∧ ∃ μ ι ds, HS G H μ ι ∧ DVs G H ι ds vs ∧ (match F ds μ with
  | .ok d μ' => ∀ v H' ι', Ext H H' → ι <+: ι' → HS G H' μ' ι' → DV G H' ι' d v → Q v H'
  | .ex c es μ' => ∀ cls dd H' ι', Ext H H' → ι <+: ι' → HS G H' μ' ι' → XR G H' ι' c es cls dd → E cls dd H'
  | .no => False)
/-- a body's end as a def's -/
@[simp] def SR.fin (r : SR) : R D := match r with
  | .nx _ μ => .ok .non μ
  | .rt d μ => .ok d μ
  | .ex c ds _ μ => .ex c ds μ
  | _ => .no
/-- a def on data: nl names, np parameters -/
def fnB (nl np : Nat) (body : SF) : FF := fun ds μ => if ds.length = np then trunc μ (body (ds.map some ++ List.replicate (nl - np) none) μ).fin else .no
theorem XR.ext {G : Glo} {H : Hp} {ι ι' : List Addr} {c : Nat} {ds : List D} {cls : Value} {dd : Option Addr} (h : XR G H ι c ds cls dd) (hb : bels ι'.length ds = true) (p : ι' <+: ι) : XR G H ι' c ds cls dd := by
  obtain ⟨C, ns, e1, e2, q⟩ := h
  refine ⟨C, ns, e1, e2, ?_⟩
  rcases q with q | ⟨d, fs, q1, q2, q3, r⟩
  · exact .inl q
  · have hi : ι.take ι'.length = ι' := by
      obtain ⟨t, rfl⟩ := p
      rw [List.take_left]
    have := DVs.takeB ι'.length _ _ hb r
    rw [hi] at this
    exact .inr ⟨d, fs, q1, q2, q3, this⟩
section
variable {P : Program} {w : World} {K : PySem.W.Frag} {mg : Str → Option Value} {base : Heap} {G : Glo}
/-- what a def of the module must be -/
structure FnD (G : Glo) (base : Heap) (k : Nat) (f : Addr) (n : Nat) (F : FF) : Prop where
  ex : ∃ fd ps, FnOk G.P G.w G.K G.mg base (L2.CX G.P G.w) k f fd ps (spD G n F) ∧ ps.length = n ∧ PySem.W.keepIn G.K (.ref f) = true ∧ Binds G.K fd ps []
  ln : ∀ ds μ, ds.length ≠ n → F ds μ = .no
theorem FnD.mono {j k : Nat} {f : Addr} {n : Nat} {F : FF} (h : FnD G base j f n F) (hj : j ≤ k) : FnD G base k f n F := by
  obtain ⟨fd, ps, h1, h2⟩ := h.ex
  exact ⟨⟨fd, ps, h1.mono hj, h2⟩, h.ln⟩
theorem fn_body (hx : G.xa = none) {qual : Str} {bd : List Stmt} {sc : Scope} {f : Addr} {N ps : List Str} {k : Nat} {body : SF} (S : FnScope N ps sc)
    (hb : ∀ (cdv : Value) (A : Around) (outer : List Env) (s : Shared) (H : Hp) (E : XK),
      DSs k (cxOf (L2.CX G.P G.w) G.P G.w G.K G.mg base N qual sc f cdv A outer s H E) G (fun cls dd _ H' => E cls dd H') bd body) :
    ∀ (cdv : Value) (A : Around) (outer : List Env) (s : Shared) (H : Hp) (vs : List V) (Q : VK) (E : XK), Room k (A.deeper (envOfC qual sc s.heap.objs.size f cdv)) → spD G ps.length (fnB N.length ps.length body) vs H Q E →
      ∃ t, PSs (cxOf (L2.CX G.P G.w) G.P G.w G.K G.mg base N qual sc f cdv A outer s H E) bd t ∧ t { nx := fun _ H' => Q .non H', rt := Q } (L2.start N vs) H := by
  refine fun cdv A outer s H vs Q E hr ⟨hl, μ, ι, ds, hs, dv, q⟩ => ⟨_, hb cdv A outer s H E ⟨rfl, rfl, rfl, rfl, rfl, hr, S.nd, ?_, ?_, hx⟩, ?_⟩
  · exact takes_of rfl rfl rfl rfl
  · exact passes_of rfl
  · have hps : ps.length ≤ N.length := by
      have := congrArg List.length S.pre
      rw [List.length_take] at this
      omega
    have hd : ds.length = ps.length := dv.length.trans hl
    refine ⟨ds.map some ++ List.replicate (N.length - ps.length) none, μ, ι, ⟨hs, ?_, fun i d e => ?_⟩, ?_⟩
    · unfold L2.start
      simp [hd, hl]
    · have hi : i < ds.length := by
        by_cases z : i < ds.length
        · exact z
        · rw [List.getElem?_append_right (by simpa using z), List.getElem?_replicate] at e
          split at e <;> cases e
      rw [List.getElem?_append_left (by simpa using hi), List.getElem?_map, Option.map_eq_some_iff] at e
      obtain ⟨d', e1, e2⟩ := e
      cases e2
      obtain ⟨v, hv, r⟩ := dv.get e1
      refine ⟨v, ?_, r⟩
      unfold L2.start
      rw [List.getElem?_append_left (by rw [List.length_map, ← dv.length]; exact hi), List.getElem?_map, hv]
      rfl
    · unfold fnB at q
      rw [if_pos hd] at q
      revert q
      have ok : ∀ (d : D) (μ' : MH), (match trunc μ (.ok d μ') with
          | .ok d μ' => ∀ v H' ι', Ext H H' → ι <+: ι' → HS G H' μ' ι' → DV G H' ι' d v → Q v H'
          | .ex c es μ' => ∀ cls dd H' ι', Ext H H' → ι <+: ι' → HS G H' μ' ι' → XR G H' ι' c es cls dd → E cls dd H'
          | .no => False) → ∀ v H' ι', Ext H H' → ι <+: ι' → HS G H' μ' ι' → DV G H' ι' d v → Q v H' := fun d μ' q v H' ι' x p hs' dv' => by
        unfold trunc at q
        by_cases hc : (d.bel μ.length && keepOk μ.length μ μ') = true
        · simp only [hc, if_true] at q
          rw [Bool.and_eq_true] at hc
          have hi : ι'.take ι.length = ι := by
            obtain ⟨t, rfl⟩ := p
            rw [List.take_left]
          refine q v H' ι x (List.prefix_refl _) (hs.cut hs' p hc.2) ?_
          have := DV.take ι.length d v (by rw [hs.ln]; exact hc.1) dv'
          rwa [hi] at this
        · simp only [hc, if_false] at q
          exact q v H' ι' x p hs' dv'
      cases body (ds.map some ++ List.replicate (N.length - ps.length) none) μ with
      | nx δ' μ' => exact fun q σ' H' ι' x p rs => ok _ _ q _ H' ι' x p rs.hs rfl
      | rt d μ' => exact fun q => ok _ _ q
      | bk _ _ => exact fun q => q.elim
      | ct _ _ => exact fun q => q.elim
      | no => exact fun q => q.elim
      | ex c es δ' μ' =>
        refine fun q cls dd σ' H' ι' x p rs xr => ?_
        simp only [SR.fin, trunc] at q
        by_cases hc : (bels μ.length es && keepOk μ.length μ μ') = true
        · simp only [hc, if_true] at q
          rw [Bool.and_eq_true] at hc
          exact q cls dd H' ι x (List.prefix_refl _) (hs.cut rs.hs p hc.2) (xr.ext (by rw [hs.ln]; exact hc.1) p)
        · simp only [hc, if_false] at q
          exact q cls dd H' ι' x p rs.hs xr
theorem fn_run (hx : G.xa = none) {x qual : Str} {st : Stmt} {f : Addr} {fd : FuncData} {N ps : List Str} {k : Nat} {body : SF} (T : Fun G.K x qual st f fd) (S : FnScope N ps (defScope st))
    (hb : ∀ (cdv : Value) (A : Around) (outer : List Env) (s : Shared) (H : Hp) (E : XK),
      DSs k (cxOf (L2.CX G.P G.w) G.P G.w G.K G.mg base N qual (defScope st) f cdv A outer s H E) G (fun cls dd _ H' => E cls dd H') (defBody st) body) :
    FnOk G.P G.w G.K G.mg base (L2.CX G.P G.w) (k + 1) f fd ps (spD G ps.length (fnB N.length ps.length body)) :=
  T.okX S (fun vs H Q E h => h.1) (fn_body hx S hb)
theorem fn_d (hx : G.xa = none) {x qual : Str} {st : Stmt} {f : Addr} {fd : FuncData} {N ps : List Str} {k : Nat} {body : SF} (T : Fun G.K x qual st f fd) (S : FnScope N ps (defScope st))
    (hbind : ∀ (kV doc pm : Value) (an : Option Addr) (cdv ct : Value) (us : List Value), us.length = ps.length → bindArgs (PySem.W.fnOf x qual (defArgs st) (defBody st) (defScope st) .none kV doc pm an cdv ct) ⟨us, []⟩ = pure (ps.zip us))
    (hb : ∀ (cdv : Value) (A : Around) (outer : List Env) (s : Shared) (H : Hp) (E : XK),
      DSs k (cxOf (L2.CX G.P G.w) G.P G.w G.K G.mg base N qual (defScope st) f cdv A outer s H E) G (fun cls dd _ H' => E cls dd H') (defBody st) body) :
    FnD G base (k + 1) f ps.length (fnB N.length ps.length body) :=
  ⟨⟨fd, ps, fn_run hx T S hb, rfl, T.kp, T.binds hbind⟩, fun ds μ h => if_neg h⟩
end
/-! ### calls -/
section
variable {k : Nat} {X : Cx} {G : Glo} {W : WX} {a b c : Expr} {fa fb fc : EF} {ta tb : TF} {pos p : Pos} {es : List Expr} {fs : AF}
/-- f(..): dvs the defaults -/
@[simp] def eCall (F : FF) (g : AF) : EF := fun δ μ => (g δ μ).bind fun l μ => F l μ
theorem fn_read {F : FF} {n : Nat} (hF : ∀ ds μ, ds.length ≠ n → F ds μ = .no) {σ : L2.St} {H : Hp} {δ : Sl} {μ : MH} {ι : List Addr} {ds : List D} {vs : List V} {Q : VK} (rs : RS G σ H δ μ ι) (dv : DVs G H ι ds vs) (q : RR G W σ δ (DV G) H ι (F ds μ) Q) : spD G n F vs H Q (WE W σ) := by
  have hn : ds.length = n := by
    by_cases z : ds.length = n
    · exact z
    · rw [hF ds μ z] at q; exact q.elim
  refine ⟨by rw [← dv.length]; exact hn, μ, ι, ds, rs.hs, dv, ?_⟩
  revert q
  cases F ds μ with
  | ok d μ' => exact fun q v H' ι' x p hs' dv' => q v H' ι' x p (rs.ext x p hs') dv'
  | ex c es μ' => exact fun q cls dd H' ι' x p hs' xr => q cls dd H' ι' x p (rs.ext x p hs') xr
  | no => exact fun q => q
/-- f(e, ..), every parameter given -/
theorem de_call {x : Str} {f : Addr} {n : Nat} {F : FF} (T : FnD G X.base k f n F) (hm : G.mg x = some (.ref f)) (ha : DA k X G W (a :: es) fs) (hg : Gl X x := by rfl)
    (hdb : (x == ("__debug__" : Str)) = false := by decide) (he : starEach (a :: es) X.env = (false, eval a X.env) :: starEach es X.env := by rfl) (hpl : (backTo pos (starEach es X.env)).any (·.1) = false := by rfl) :
    DE k X G W (.Call (.Name x p) (a :: es) [] pos) (eCall F fs) := fun cc => by
  obtain ⟨fd, ps, F0, hps, hk, hb⟩ := T.ex
  have F1 : FnOk X.prog X.w X.K X.mg X.base (L2.CX X.prog X.w) k f fd ps (spD G n F) := by rw [cc.hP, cc.hw, cc.hK, cc.hm]; exact F0
  refine peI (pe_callS F1 cc.room hg (by rw [cc.hm]; exact hm) (by rw [cc.hK]; exact hk) (by rw [cc.hK]; exact hb) (fun σ => passAt cc.tk σ) (ha cc) hdb he hpl) fun σ H Q ⟨δ, μ, ι, rs, q⟩ => ⟨δ, μ, ι, rs, RR.bnd q fun l μ1 vs H1 ι1 x1 p1 rs1 dl q => ?_⟩
  exact fn_read T.ln rs1 dl q
/-- f() -/
@[simp] def eCall0 (F : FF) : EF := fun δ μ => F [] μ
theorem de_call0 {x : Str} {f : Addr} {F : FF} (T : FnD G X.base k f 0 F) (hm : G.mg x = some (.ref f)) (hg : Gl X x := by rfl) (hdb : (x == ("__debug__" : Str)) = false := by decide) :
    DE k X G W (.Call (.Name x p) [] [] pos) (eCall0 F) := fun cc => by
  obtain ⟨fd, ps, F0, hps, hk, hb⟩ := T.ex
  have F1 : FnOk X.prog X.w X.K X.mg X.base (L2.CX X.prog X.w) k f fd ps (spD G 0 F) := by rw [cc.hP, cc.hw, cc.hK, cc.hm]; exact F0
  refine ⟨fun pins s σ H Q I ⟨δ, μ, ι, rs, q⟩ => ?_⟩
  refine wpAny_Call_Name_kw (ld_glob I hg (by rw [cc.hm]; exact hm) ?_ hdb)
  exact PySem.W.callWith_K0 I.kIn (by rw [cc.hK]; exact hk) (run_fnS (us := []) F1 cc.room (by rw [cc.hK]; exact hb) (passAt cc.tk σ) I .nil (fn_read (ds := []) T.ln rs rfl q))
end
end SZ
end
section
/-! SZ, part K: built-in functions, methods of lists. -/
namespace SZ
open PySem PySem.Spec PyProof.Rows L2
section
variable {k : Nat} {X : Cx} {G : Glo} {W : WX} {a b c : Expr} {fa fb fc : EF} {ta tb : TF} {pos p : Pos} {es : List Expr} {fs : AF}
/-- a call of a value: what it does on data -/
def CaD (k : Nat) (X : Cx) (G : Glo) (W : WX) (f : Value) (F : List D → MH → R D) : Prop := CC k X G W →
  ∀ (pins : List (Addr × Obj)) (s : Shared) (σ : L2.St) (H : Hp) (δ : Sl) (μ : MH) (ι : List Addr) (ds : List D) (vs : List V) (us : List Value) (Q : VK), Inv X pins σ H s → Vals vs us → RS G σ H δ μ ι → DVs G H ι ds vs →
    RR G W σ δ (DV G) H ι (F ds μ) Q → wpAny (model X.prog X.w) X.A (call f us) (EP X pins σ Q) X.xe s
theorem CaD.of {f : Value} {F : List D → MH → R D} {r : List V → Hp → VK → Prop} (hc : CC k X G W → CallR X f r)
    (h : CC k X G W → ∀ (σ : L2.St) (H : Hp) (δ : Sl) (μ : MH) (ι : List Addr) (ds : List D) (vs : List V) (Q : VK), RS G σ H δ μ ι → DVs G H ι ds vs → RR G W σ δ (DV G) H ι (F ds μ) Q → r vs H Q) : CaD k X G W f F :=
  fun cc pins s σ H δ μ ι ds vs us Q I rv rs dv q => hc cc pins s σ H vs us Q I rv (h cc σ H δ μ ι ds vs Q rs dv q)
/-- the same, the result handed on as one that never changes -/
theorem CaD.frz {f : Value} {F : List D → MH → R D} {r : List V → Hp → VK → Prop} (hc : CC k X G W → CallR X f r)
    (h : CC k X G W → ∀ (σ : L2.St) (H : Hp) (δ : Sl) (μ : MH) (ι : List Addr) (ds : List D) (vs : List V) (Q : VK), RS G σ H δ μ ι → DVs G H ι ds vs → RR G W σ δ (DV G) H ι (F ds μ) Q → r vs H (FQ Q)) : CaD k X G W f F :=
  fun cc pins s σ H δ μ ι ds vs us Q I rv rs dv q => thn (hc cc pins s σ H vs us (FQ Q) I rv (h cc σ H δ μ ι ds vs Q rs dv q)) fun _ _ z => FQ.ep z
theorem de_cb {x : Str} {id : String} {F : List D → MH → R D} (hc : CaD k X G W (.builtin id) F) (hm : G.mg x = none) (hv : bootBuiltins x = some (.builtin id)) (ha : DA k X G W (a :: es) fs) (hg : Gl X x := by rfl) (hn : x ≠ "__name__" := by decide) (hdb : (x == ("__debug__" : Str)) = false := by decide)
    (he : starEach (a :: es) X.env = (false, eval a X.env) :: starEach es X.env := by rfl) (hpl : (backTo pos (starEach es X.env)).any (·.1) = false := by rfl) : DE k X G W (.Call (.Name x p) (a :: es) [] pos) (eCall F fs) := fun cc => by
  refine ⟨fun pins s σ H Q I ⟨δ, μ, ι, rs, q⟩ => ?_⟩
  refine wpAny_Call_Name_kw (ld_blt I hg (by rw [cc.hm]; exact hm) hv ?_ hn hdb)
  have h' : rA G W fs σ H fun vs H1 => ∃ δ μ ι ds, RS G σ H1 δ μ ι ∧ DVs G H1 ι ds vs ∧ RR G W σ δ (DV G) H1 ι (F ds μ) Q := ⟨δ, μ, ι, rs, RR.bnd q fun l μ1 vs H1 ι1 x1 p1 rs1 dl q => ⟨δ, μ1, ι1, l, rs1, dl, q⟩⟩
  exact PyProof.Rows.callWith_builtin1 (thn ((ha cc).run pos pins s σ H _ I h') fun us s1 ⟨vs, H1, I1, r1, δ, μ, ι, ds, rs1, dv, q1⟩ => hc cc pins s1 σ H1 δ μ ι ds vs us Q I1 r1 rs1 dv q1) he hpl
theorem de_ct {x : Str} {T : String} {F : List D → MH → R D} (hc : CaD k X G W (.type T) F) (hm : G.mg x = none) (hv : bootBuiltins x = some (.type T)) (ha : DA k X G W (a :: es) fs) (hg : Gl X x := by rfl) (hn : x ≠ "__name__" := by decide) (hdb : (x == ("__debug__" : Str)) = false := by decide)
    (he : starEach (a :: es) X.env = (false, eval a X.env) :: starEach es X.env := by rfl) (hpl : (backTo pos (starEach es X.env)).any (·.1) = false := by rfl) : DE k X G W (.Call (.Name x p) (a :: es) [] pos) (eCall F fs) := fun cc => by
  refine ⟨fun pins s σ H Q I ⟨δ, μ, ι, rs, q⟩ => ?_⟩
  refine wpAny_Call_Name_kw (ld_blt I hg (by rw [cc.hm]; exact hm) hv ?_ hn hdb)
  have h' : rA G W fs σ H fun vs H1 => ∃ δ μ ι ds, RS G σ H1 δ μ ι ∧ DVs G H1 ι ds vs ∧ RR G W σ δ (DV G) H1 ι (F ds μ) Q := ⟨δ, μ, ι, rs, RR.bnd q fun l μ1 vs H1 ι1 x1 p1 rs1 dl q => ⟨δ, μ1, ι1, l, rs1, dl, q⟩⟩
  exact PyProof.Rows.callWith_type1 (thn ((ha cc).run pos pins s σ H _ I h') fun us s1 ⟨vs, H1, I1, r1, δ, μ, ι, ds, rs1, dv, q1⟩ => hc cc pins s1 σ H1 δ μ ι ds vs us Q I1 r1 rs1 dv q1) he hpl
theorem dvs1 {H : Hp} {ι : List Addr} {d : D} {vs : List V} (h : DVs G H ι [d] vs) : ∃ v, vs = [v] ∧ DV G H ι d v := by
  obtain ⟨v, _, rfl, d1, rfl⟩ := h
  exact ⟨v, rfl, d1⟩
theorem dvs2 {H : Hp} {ι : List Addr} {d e : D} {vs : List V} (h : DVs G H ι [d, e] vs) : ∃ v w, vs = [v, w] ∧ DV G H ι d v ∧ DV G H ι e w := by
  obtain ⟨v, _, rfl, d1, w, _, rfl, d2, rfl⟩ := h
  exact ⟨v, w, rfl, d1, d2⟩
/-! ### len, int, str, list, tuple -/
@[simp] def lenD : List D → MH → R D := fun l μ => match l with
  | [x] => match seqOf μ x with
    | some l => .ok (.int l.length) μ
    | none => match x with
      | .str z => if z.length ≤ sizeLine then .ok (.int z.length) μ else .no
      | _ => .no
  | _ => .no
theorem ca_len : CaD k X G W (.builtin "len") lenD := fun cc pins s σ H δ μ ι ds vs us Q I rv rs dv q => by
  unfold lenD at q
  split at q
  · rename_i x
    obtain ⟨v, rfl, dx⟩ := dvs1 dv
    cases e : seqOf μ x with
    | some l =>
      simp only [e] at q
      obtain ⟨ad, ys, rfl, sq, dl⟩ := seq_view rs dx e
      exact call_len_seq pins s σ H _ us Q I rv ⟨ad, ys, rfl, by rw [cc.hK]; exact sq, q.now rs (by rw [dl.length]; rfl)⟩
    | none =>
      simp only [e] at q
      split at q
      · rename_i z
        by_cases hz : z.length ≤ sizeLine
        · rw [if_pos hz] at q
          exact call_len_str pins s σ H _ us Q I rv ⟨z, by rw [show v = .str z from dx], hz, q.now rs rfl⟩
        · rw [if_neg hz] at q; exact q.elim
      · exact q.elim
  · exact q.elim
@[simp] def intD : List D → MH → R D := fun l μ => match l with
  | [.int i] => .ok (.int i) μ
  | [.bl b] => .ok (.int (if b then 1 else 0)) μ
  | [.str a] => match PySem.intText? a with
    | some n => if a.length ≤ 640 then .ok (.int n) μ else .no
    | none => .no
  | _ => .no
theorem ca_int : CaD k X G W (.type "int") intD := fun cc pins s σ H δ μ ι ds vs us Q I rv rs dv q => by
  unfold intD at q
  split at q
  · rename_i i
    obtain ⟨v, rfl, dx⟩ := dvs1 dv
    exact call_int1 pins s σ H _ us Q I rv (.inl ⟨i, by rw [show v = .int i from dx], q.now rs rfl⟩)
  · rename_i i
    obtain ⟨v, rfl, dx⟩ := dvs1 dv
    exact call_int1 pins s σ H _ us Q I rv (.inr ⟨i, by rw [show v = .bl i from dx], q.now rs rfl⟩)
  · rename_i z
    obtain ⟨v, rfl, dx⟩ := dvs1 dv
    cases e : PySem.intText? z with
    | none => simp only [e] at q; exact q.elim
    | some n =>
      simp only [e] at q
      by_cases hz : z.length ≤ 640
      · rw [if_pos hz] at q
        exact call_int_str pins s σ H _ us Q I rv ⟨z, n, by rw [show v = .str z from dx], e, hz, q.now rs rfl⟩
      · rw [if_neg hz] at q; exact q.elim
  · exact q.elim
@[simp] def strD : List D → MH → R D := fun l μ => match l with
  | [.int i] => if i.natAbs.log2 < 1920 then .ok (.str (toString i)) μ else .no
  | _ => .no
theorem ca_str : CaD k X G W (.type "str") strD := fun cc pins s σ H δ μ ι ds vs us Q I rv rs dv q => by
  unfold strD at q
  split at q
  · rename_i i
    obtain ⟨v, rfl, dx⟩ := dvs1 dv
    by_cases hi : i.natAbs.log2 < 1920
    · rw [if_pos hi] at q
      exact call_str_int pins s σ H _ us Q I rv ⟨i, by rw [show v = .int i from dx], hi, q.now rs rfl⟩
    · rw [if_neg hi] at q; exact q.elim
  · exact q.elim
/-- list(x): one that never changes; lisM: one that may -/
@[simp] def lisD : List D → MH → R D := fun l μ => match l with
  | [x] => match seqOf μ x with
    | some l => .ok (.lst l) μ
    | none => .no
  | _ => .no
@[simp] def lisM : List D → MH → R D := fun l μ => match l with
  | [x] => match seqOf μ x with
    | some l => .ok (.ref μ.length) (μ ++ [some (.lst l)])
    | none => .no
  | _ => .no
theorem ca_list : CaD k X G W (.type "list") lisD := .frz (fun _ => call_list_of) fun cc σ H δ μ ι ds vs Q rs dv q => by
  unfold lisD at q
  split at q
  · rename_i x
    obtain ⟨v, rfl, dx⟩ := dvs1 dv
    cases e : seqOf μ x with
    | some l =>
      simp only [e] at q
      obtain ⟨ad, ys, rfl, sq, dl⟩ := seq_view rs dx e
      exact ⟨ad, ys, rfl, by rw [cc.hK]; exact sq, fun p hp => q.newL rs hp dl⟩
    | none => simp only [e] at q; exact q.elim
  · exact q.elim
theorem ca_listM : CaD k X G W (.type "list") lisM := .of (fun _ => call_list_of) fun cc σ H δ μ ι ds vs Q rs dv q => by
  unfold lisM at q
  split at q
  · rename_i x
    obtain ⟨v, rfl, dx⟩ := dvs1 dv
    cases e : seqOf μ x with
    | some l =>
      simp only [e] at q
      obtain ⟨ad, ys, rfl, sq, dl⟩ := seq_view rs dx e
      exact ⟨ad, ys, rfl, by rw [cc.hK]; exact sq, fun p hp => q.newM rs hp ⟨ys, upd_same, DVs.mono (Ext.upd_free hp) (List.prefix_append _ _) _ _ dl⟩⟩
    | none => simp only [e] at q; exact q.elim
  · exact q.elim
@[simp] def tupD : List D → MH → R D := fun l μ => match l with
  | [.tup l] => .ok (.tup l) μ
  | [x] => match lstOf μ x with
    | some l => .ok (.tup l) μ
    | none => .no
  | _ => .no
theorem ca_tup : CaD k X G W (.type "tuple") tupD := .of (fun _ => call_tuple_of) fun cc σ H δ μ ι ds vs Q rs dv q => by
  unfold tupD at q
  split at q
  · obtain ⟨v, rfl, ad, ys, rfl, sq, dl⟩ := dvs1 dv
    exact ⟨ad, ys, rfl, .inr ⟨by rw [cc.hK]; exact sq, q.now rs ⟨ad, ys, rfl, sq, dl⟩⟩⟩
  · rename_i x _
    obtain ⟨v, rfl, dx⟩ := dvs1 dv
    cases e : lstOf μ x with
    | some l =>
      simp only [e] at q
      obtain ⟨ad, ys, rfl, sq, dl⟩ := lst_view rs dx e
      exact ⟨ad, ys, rfl, .inl ⟨by rw [cc.hK]; exact sq, fun p hp => q.new rs hp ⟨p, ys, rfl, SqT.of upd_same, DVs.mono (Ext.upd_free hp) (List.prefix_refl _) _ _ dl⟩⟩⟩
    | none => simp only [e] at q; exact q.elim
  · exact q.elim
/-! ### min, max, sum, all -/
def intsOf : List D → Option (List Int)
  | [] => some []
  | .int i :: l => (intsOf l).map (i :: ·)
  | _ :: _ => none
def blsOf : List D → Option (List Bool)
  | [] => some []
  | .bl i :: l => (blsOf l).map (i :: ·)
  | _ :: _ => none
theorem ints_view {H : Hp} {ι : List Addr} : ∀ {l : List D} {vs : List V} {ns : List Int}, intsOf l = some ns → DVs G H ι l vs → vs = ns.map V.int
  | [], _, _, h, e => by cases h; exact e
  | d :: l, _, ns, h, ⟨v, r, e, d1, d2⟩ => by
    cases d <;> simp only [intsOf, Option.map_eq_some_iff, reduceCtorEq] at h
    obtain ⟨ms, h, rfl⟩ := h
    subst e
    rw [ints_view h d2, show v = V.int _ from d1]
    rfl
theorem bls_view {H : Hp} {ι : List Addr} : ∀ {l : List D} {vs : List V} {ns : List Bool}, blsOf l = some ns → DVs G H ι l vs → vs = ns.map V.bl
  | [], _, _, h, e => by cases h; exact e
  | d :: l, _, ns, h, ⟨v, r, e, d1, d2⟩ => by
    cases d <;> simp only [blsOf, Option.map_eq_some_iff, reduceCtorEq] at h
    obtain ⟨ms, h, rfl⟩ := h
    subst e
    rw [bls_view h d2, show v = V.bl _ from d1]
    rfl
def bestI (lt : Int → Int → Bool) (a : Int) : List Int → Int
  | [] => a
  | b :: l => bestI lt (if lt b a then b else a) l
@[simp] def mmD (lt : Int → Int → Bool) : List D → MH → R D := fun l μ => match l with
  | [.int i, .int j] => .ok (.int (if lt j i then j else i)) μ
  | [x] => match lstOf μ x with
    | some l => match intsOf l with
      | some (a :: ns) => .ok (.int (bestI lt a ns)) μ
      | _ => .no
    | none => .no
  | _ => .no
theorem best_max : ∀ (l : List Int) (a : Int), bestI (fun b a => decide (b > a)) a l ∈ a :: l ∧ ∀ y ∈ a :: l, y ≤ bestI (fun b a => decide (b > a)) a l
  | [], a => ⟨by simp [bestI], by simp [bestI]⟩
  | b :: l, a => by
    unfold bestI
    by_cases h : b > a
    · have := best_max l b
      simp only [h, decide_true, if_true]
      refine ⟨List.mem_cons_of_mem _ this.1, fun y hy => ?_⟩
      rcases List.mem_cons.mp hy with rfl | hy
      · have := this.2 b (by simp); omega
      · exact this.2 y hy
    · have := best_max l a
      simp only [h, decide_false, Bool.false_eq_true, if_false]
      refine ⟨?_, fun y hy => ?_⟩
      · rcases List.mem_cons.mp this.1 with e | e
        · rw [e]; simp
        · exact List.mem_cons_of_mem _ (List.mem_cons_of_mem _ e)
      · rcases List.mem_cons.mp hy with rfl | hy
        · exact this.2 y (by simp)
        · rcases List.mem_cons.mp hy with rfl | hy
          · have := this.2 a (by simp); omega
          · exact this.2 y (List.mem_cons_of_mem _ hy)
theorem best_min : ∀ (l : List Int) (a : Int), bestI (fun b a => decide (b < a)) a l ∈ a :: l ∧ ∀ y ∈ a :: l, bestI (fun b a => decide (b < a)) a l ≤ y
  | [], a => ⟨by simp [bestI], by simp [bestI]⟩
  | b :: l, a => by
    unfold bestI
    by_cases h : b < a
    · have := best_min l b
      simp only [h, decide_true, if_true]
      refine ⟨List.mem_cons_of_mem _ this.1, fun y hy => ?_⟩
      rcases List.mem_cons.mp hy with rfl | hy
      · have := this.2 b (by simp); omega
      · exact this.2 y hy
    · have := best_min l a
      simp only [h, decide_false, Bool.false_eq_true, if_false]
      refine ⟨?_, fun y hy => ?_⟩
      · rcases List.mem_cons.mp this.1 with e | e
        · rw [e]; simp
        · exact List.mem_cons_of_mem _ (List.mem_cons_of_mem _ e)
      · rcases List.mem_cons.mp hy with rfl | hy
        · exact this.2 y (by simp)
        · rcases List.mem_cons.mp hy with rfl | hy
          · have := this.2 a (by simp); omega
          · exact this.2 y (List.mem_cons_of_mem _ hy)
theorem ca_max : CaD k X G W (.builtin "max") (mmD fun b a => decide (b > a)) := fun cc pins s σ H δ μ ι ds vs us Q I rv rs dv q => by
  unfold mmD at q
  split at q
  · rename_i i j
    obtain ⟨v, w, rfl, d1, d2⟩ := dvs2 dv
    refine call_max2 cc.calm pins s σ H _ us Q I rv ⟨i, j, by rw [show v = .int i from d1, show w = .int j from d2], ?_⟩
    simp only [decide_eq_true_eq] at q
    exact q.now rs rfl
  · rename_i x
    obtain ⟨v, rfl, dx⟩ := dvs1 dv
    cases e : lstOf μ x with
    | none => simp only [e] at q; exact q.elim
    | some l =>
      simp only [e] at q
      split at q
      · rename_i aa ns hn
        obtain ⟨ad, ys, rfl, sq, dl⟩ := lst_view rs dx e
        rw [ints_view hn dl] at sq
        obtain ⟨b1, b2⟩ := best_max ns aa
        refine cr_max cc.calm pins s σ H _ us Q I rv ⟨ad, aa :: ns, rfl, by rw [cc.hK]; exact sq, by simp, fun m h1 h2 => ?_⟩
        have : m = bestI (fun b a => decide (b > a)) aa ns := Int.le_antisymm (b2 m h1) (h2 _ b1)
        subst this
        exact q.now rs rfl
      · exact q.elim
  · exact q.elim
theorem ca_min : CaD k X G W (.builtin "min") (mmD fun b a => decide (b < a)) := fun cc pins s σ H δ μ ι ds vs us Q I rv rs dv q => by
  unfold mmD at q
  split at q
  · rename_i i j
    obtain ⟨v, w, rfl, d1, d2⟩ := dvs2 dv
    refine call_min2 cc.calm pins s σ H _ us Q I rv ⟨i, j, by rw [show v = .int i from d1, show w = .int j from d2], ?_⟩
    simp only [decide_eq_true_eq] at q
    exact q.now rs rfl
  · rename_i x
    obtain ⟨v, rfl, dx⟩ := dvs1 dv
    cases e : lstOf μ x with
    | none => simp only [e] at q; exact q.elim
    | some l =>
      simp only [e] at q
      split at q
      · rename_i aa ns hn
        obtain ⟨ad, ys, rfl, sq, dl⟩ := lst_view rs dx e
        rw [ints_view hn dl] at sq
        obtain ⟨b1, b2⟩ := best_min ns aa
        refine cr_min cc.calm pins s σ H _ us Q I rv ⟨ad, aa :: ns, rfl, by rw [cc.hK]; exact sq, by simp, fun m h1 h2 => ?_⟩
        have : m = bestI (fun b a => decide (b < a)) aa ns := Int.le_antisymm (h2 _ b1) (b2 m h1)
        subst this
        exact q.now rs rfl
      · exact q.elim
  · exact q.elim
@[simp] def allD : List D → MH → R D := fun l μ => match l with
  | [x] => match lstOf μ x with
    | some l => match blsOf l with
      | some bs => .ok (.bl (bs.all id)) μ
      | none => .no
    | none => .no
  | _ => .no
theorem ca_all : CaD k X G W (.builtin "all") allD := .of (fun cc => cr_all cc.calm) fun cc σ H δ μ ι ds vs Q rs dv q => by
  unfold allD at q
  split at q
  · rename_i x
    obtain ⟨v, rfl, dx⟩ := dvs1 dv
    cases e : lstOf μ x with
    | none => simp only [e] at q; exact q.elim
    | some l =>
      simp only [e] at q
      cases hn : blsOf l with
      | none => simp only [hn] at q; exact q.elim
      | some bs =>
        simp only [hn] at q
        obtain ⟨ad, ys, rfl, sq, dl⟩ := lst_view rs dx e
        rw [bls_view hn dl] at sq
        exact ⟨ad, bs, rfl, by rw [cc.hK]; exact sq, q.now rs rfl⟩
  · exact q.elim
@[simp] def sumD : List D → MH → R D := fun l μ => match l with
  | [x] => match lstOf μ x with
    | some l => match intsOf l with
      | some bs => .ok (.int bs.sum) μ
      | none => .no
    | none => .no
  | _ => .no
theorem ca_sum : CaD k X G W (.builtin "sum") sumD := .of (fun cc => cr_sum cc.calm) fun cc σ H δ μ ι ds vs Q rs dv q => by
  unfold sumD at q
  split at q
  · rename_i x
    obtain ⟨v, rfl, dx⟩ := dvs1 dv
    cases e : lstOf μ x with
    | none => simp only [e] at q; exact q.elim
    | some l =>
      simp only [e] at q
      cases hn : intsOf l with
      | none => simp only [hn] at q; exact q.elim
      | some bs =>
        simp only [hn] at q
        obtain ⟨ad, ys, rfl, sq, dl⟩ := lst_view rs dx e
        rw [ints_view hn dl] at sq
        exact ⟨ad, bs, rfl, by rw [cc.hK]; exact sq, q.now rs rfl⟩
  · exact q.elim
/-! ### isinstance, built-in types -/
def tyN (μ : MH) : D → Option String
  | .non => some "NoneType"
  | .bl _ => some "bool"
  | .int _ => some "int"
  | .str _ => some "str"
  | .tup _ => some "tuple"
  | .lst _ => some "list"
  | .dic false _ _ => some "dict"
  | .ref n => match μ[n]? with
    | some (some (.lst _)) => some "list"
    | _ => none
  | _ => none
def isT (t n : String) : Bool := t == n || (t == "bool" && n == "int")
theorem tyx_of {σ : L2.St} {H : Hp} {δ : Sl} {μ : MH} {ι : List Addr} {d : D} {v : V} {t : String} (rs : RS G σ H δ μ ι) (dx : DV G H ι d v) (h : tyN μ d = some t) : TyX G.K H v (.type t) ∧ t ∈ ["NoneType", "bool", "int", "str", "tuple", "list", "dict"] := by
  cases d with
  | non => cases h; cases dx; exact ⟨.base .non, by decide⟩
  | bl b => cases h; cases dx; exact ⟨.base (.bl b), by decide⟩
  | int b => cases h; cases dx; exact ⟨.base (.int b), by decide⟩
  | str b => cases h; cases dx; exact ⟨.base (.str b), by decide⟩
  | tup l =>
    cases h
    obtain ⟨a, vs, rfl, s, r⟩ := dx
    refine ⟨?_, by decide⟩
    rcases s with (s | ⟨o, s⟩) | ⟨o, its, n, e1, e2, _⟩
    · exact .base (.tup s)
    · exact .fTuple s
    · exact .kTuple e1 e2
  | lst l =>
    cases h
    obtain ⟨a, vs, rfl, s, r⟩ := dx
    refine ⟨?_, by decide⟩
    rcases s with ⟨o, s⟩ | ⟨o, its, n, e1, e2, _⟩
    · exact .base (.frz s)
    · exact .kList e1 e2
  | dic t ks vs =>
    cases t with
    | true => cases h
    | false =>
      cases h
      obtain ⟨a, o, rfl, kvs, s, r⟩ := dx
      exact ⟨.fDict s, by decide⟩
  | clo _ _ => cases h
  | ref n =>
    obtain ⟨a, ea, rfl⟩ := dx
    simp only [tyN] at h
    cases e : (μ[n]? : Option (Option MO)) with
    | none => simp [e] at h
    | some om =>
      cases om with
      | none => simp [e] at h
      | some m =>
        cases m with
        | lst l =>
          simp only [e, Option.some.injEq] at h
          subst h
          obtain ⟨vs, e1, _⟩ := rs.hs.there e ea
          exact ⟨.base (.lst e1), by decide⟩
        | _ => simp [e] at h
  | obj c vs => cases h
  | fn f => cases h
  | exn c vs => cases h
theorem kit_table : ∀ t ∈ ["NoneType", "bool", "int", "str", "tuple", "list", "dict"], ∀ n ∈ ["int", "bool", "tuple", "str", "list"], kitB t n = some (isT t n) := by decide +kernel
@[simp] def eIsi (n : String) (fa : EF) : EF := fun δ μ => (fa δ μ).bind fun d μ => match tyN μ d with
  | some t => .ok (.bl (isT t n)) μ
  | none => .no
theorem pe_tyn {x : Str} {T : String} (hg : Gl X x) (hm : X.mg x = none) (hv : bootBuiltins x = some (.type T)) (hn : x ≠ "__name__" := by decide) (hd : (x == ("__debug__" : Str)) = false := by decide) : PE X (.Name x pos) (tC (.ty T)) :=
  ⟨fun pins s σ H Q I h => ld_blt I hg hm hv ⟨.ty T, H, I, rfl, h⟩ hn hd⟩
theorem de_isi {x : Str} (n : String) {q p2 : Pos} (ha : DE k X G W a fa) (hi : G.mg "isinstance" = none) (hm : G.mg x = none) (hv : bootBuiltins x = some (.type n)) (hn : n ∈ ["int", "bool", "tuple", "str", "list"] := by decide) (hgi : Gl X "isinstance" := by rfl) (hg : Gl X x := by rfl)
    (hn2 : x ≠ "__name__" := by decide) (hd : (x == ("__debug__" : Str)) = false := by decide)
    (he1 : starEach [a, .Name x p2] X.env = (false, eval a X.env) :: starEach [.Name x p2] X.env := by rfl) (he2 : starEach [.Name x p2] X.env = (false, eval (.Name x p2) X.env) :: starEach [] X.env := by rfl) (hpl : (backTo pos (starEach [.Name x p2] X.env)).any (·.1) = false := by rfl) :
    DE k X G W (.Call (.Name "isinstance" q) [a, .Name x p2] [] pos) (eIsi n fa) := fun cc =>
  peI (pe_callB call_isi hgi (by rw [cc.hm]; exact hi) PyProof.Rows.boot_isinstance (pa_cons (ha cc) (pa_cons (pe_tyn hg (by rw [cc.hm]; exact hm) hv hn2 hd) pa_nil he2) he1) (by decide) (by decide) he1 hpl) fun σ H Q ⟨δ, μ, ι, rs, q⟩ => ⟨δ, μ, ι, rs, RR.bnd q fun d μ1 v H1 ι1 x1 p1 rs1 dx q => by
    cases e : tyN μ1 d with
    | none => rw [e] at q; exact q.elim
    | some t =>
      rw [e] at q
      obtain ⟨h1, h2⟩ := tyx_of rs1 dx e
      exact ⟨v, .ty n, .type t, .type n, _, rfl, .ty n, by rw [cc.hK]; exact h1, kit_ty (kit_table t h2 n hn), q.now rs1 rfl⟩⟩
end
end SZ
end
section
/-! SZ, part L: methods of lists; short names. -/
namespace SZ
open PySem PySem.Spec PyProof.Rows L2
abbrev subD := iOp fun i j => i - j
abbrev ltD := cOp fun i j => decide (i < j)
abbrev leD := cOp fun i j => decide (i ≤ j)
abbrev gtD := cOp fun i j => decide (j < i)
abbrev geD := cOp fun i j => decide (j ≤ i)
abbrev maxD := mmD fun b a => decide (b > a)
abbrev minD := mmD fun b a => decide (b < a)
section
variable {k : Nat} {X : Cx} {G : Glo} {W : WX} {a b c o : Expr} {fa fb fc fo : EF} {ta tb : TF} {pos p cpos apos : Pos} {es : List Expr} {fs : AF}
/-- a method of a mutable list -/
def MtD (k : Nat) (X : Cx) (G : Glo) (W : WX) (id : String) (F : Nat → List D → List D → MH → R D) : Prop := CC k X G W →
  ∀ (pins : List (Addr × Obj)) (s : Shared) (σ : L2.St) (H : Hp) (δ : Sl) (μ : MH) (ι : List Addr) (n : Nat) (l ds : List D) (x : V) (vs : List V) (v : Value) (us : List Value) (Q : VK), Inv X pins σ H s → RelV x v → Vals vs us → RS G σ H δ μ ι → DV G H ι (.ref n) x →
    μ[n]? = some (some (.lst l)) → DVs G H ι ds vs → RR G W σ δ (DV G) H ι (F n l ds μ) Q → wpAny (model X.prog X.w) X.A (call (.builtin id) (v :: us)) (EP X pins σ Q) X.xe s
@[simp] def mtF (F : Nat → List D → List D → MH → R D) (d : D) (ds : List D) (μ : MH) : R D := match d with
  | .ref n => match μ[n]? with
    | some (some (.lst l)) => F n l ds μ
    | _ => .no
  | _ => .no
/-- the list must be there as such when the method is looked up -/
@[simp] def eMt (F : Nat → List D → List D → MH → R D) (fo : EF) (g : AF) : EF := fun δ μ => (fo δ μ).bind fun d μ => match lstOf μ d with
  | some _ => (g δ μ).bind fun l μ => mtF F d l μ
  | none => .no
theorem mt_run {id : String} {F : Nat → List D → List D → MH → R D} (h : MtD k X G W id F) (cc : CC k X G W) {pins : List (Addr × Obj)} {s : Shared} {σ : L2.St} {H : Hp} {δ : Sl} {μ : MH} {ι : List Addr} {d : D} {ds : List D} {x : V} {vs : List V} {v : Value} {us : List Value} {Q : VK}
    (I : Inv X pins σ H s) (rx : RelV x v) (rv : Vals vs us) (rs : RS G σ H δ μ ι) (dx : DV G H ι d x) (dv : DVs G H ι ds vs) (q : RR G W σ δ (DV G) H ι (mtF F d ds μ) Q) : wpAny (model X.prog X.w) X.A (call (.builtin id) (v :: us)) (EP X pins σ Q) X.xe s := by
  cases d with
  | ref n =>
    simp only [mtF] at q
    cases e : (μ[n]? : Option (Option MO)) with
    | none => simp only [e] at q; exact q.elim
    | some om =>
      cases om with
      | none => simp only [e] at q; exact q.elim
      | some m =>
        cases m with
        | lst l =>
          simp only [e] at q
          exact h cc pins s σ H δ μ ι n l ds x vs v us Q I rx rv rs dx e dv q
        | _ => simp only [e] at q; exact q.elim
  | _ => exact q.elim
theorem mt_read {F : Nat → List D → List D → MH → R D} {σ : L2.St} {H : Hp} {Q : VK} (q : rE G W (eMt F fo fs) σ H Q) : rE G W fo σ H fun x H1 => tyV G.K "list" x H1 ∧ rA G W fs σ H1 fun vs H2 => ∃ δ μ ι d ds, RS G σ H2 δ μ ι ∧ DV G H2 ι d x ∧ DVs G H2 ι ds vs ∧ RR G W σ δ (DV G) H2 ι (mtF F d ds μ) Q := by
  obtain ⟨δ, μ, ι, rs, q⟩ := q
  refine ⟨δ, μ, ι, rs, RR.bnd q fun d μ1 x H1 ι1 x1 p1 rs1 dx q => ?_⟩
  cases e : lstOf μ1 d with
  | none => simp only [e] at q; exact q.elim
  | some l =>
    simp only [e] at q
    obtain ⟨ad, ys, rfl, sq, dl⟩ := lst_view rs1 dx e
    exact ⟨.inl ⟨rfl, ys, sq⟩, δ, μ1, ι1, rs1, RR.bnd q fun ds μ2 vs H2 ι2 x2 p2 rs2 dv q => ⟨δ, μ2, ι2, d, ds, rs2, DV.mono x2 p2 _ _ dx, dv, q⟩⟩
theorem de_mt {name : Str} {id : String} {F : Nat → List D → List D → MH → R D} (h : MtD k X G W id F) (slot : Slot "list" name id) (hty : typeOf (.builtin id) = pure (.type "method_descriptor")) (ho : DE k X G W o fo) (ha : DA k X G W (a :: es) fs)
    (hbase : attributeBase o name X.env (eval o X.env) = eval o X.env := by rfl)
    (hfew : ((backTo cpos (starEach (a :: es) X.env)).all (fun x => !x.1) && (backToKw cpos (keywordEach [] X.env)).all (fun x => x.1.isSome)
      && decide ((a :: es).length + ([] : List Keyword).length + (if ([] : List Keyword).isEmpty then 0 else 1) < 30)) = true := by rfl)
    (hline : (apos.endLine == cpos.line) = true := by rfl) (hs : starEach (a :: es) X.env = (false, eval a X.env) :: starEach es X.env := by rfl) (hplain : (backTo cpos (starEach es X.env)).any (·.1) = false := by rfl) :
    DE k X G W (.Call (.Attribute o name apos) (a :: es) [] cpos) (eMt F fo fs) := fun cc => by
  refine ⟨fun pins s σ H Q I q => ?_⟩
  refine wpAny_Call_method_late hbase hfew hline rfl (thn ((ho cc).run pins s σ H _ I (mt_read q)) fun v s1 ⟨x, H1, I1, r1, ty, q1⟩ => ?_)
  obtain ⟨h1, h2⟩ := tyV_is I1 r1 (by rw [cc.hK]; exact ty)
  refine ⟨"list", id, PySem.F.plainAttrs_list, slot, hty, h1, h2, ?_⟩
  have hA := (ha cc).run cpos pins s1 σ H1 _ I1 q1
  rw [hs] at hA ⊢
  refine Calls.callWith_builtin (by show (false || (backTo cpos (starEach es X.env)).any (·.1)) = false; rw [hplain] <;> rfl) (Calls.evalArgs_plain ?_)
  exact thn hA fun us s2 ⟨vs, H2, I2, r2, δ, μ, ι, d, ds, rs, dx, dv, q2⟩ => mt_run h cc I2 r1 r2 rs dx dv q2
@[simp] def eMt0 (F : Nat → List D → List D → MH → R D) (fo : EF) : EF := fun δ μ => (fo δ μ).bind fun d μ => mtF F d [] μ
theorem de_mt0 {name : Str} {id : String} {F : Nat → List D → List D → MH → R D} (h : MtD k X G W id F) (slot : Slot "list" name id) (hty : typeOf (.builtin id) = pure (.type "method_descriptor")) (ho : DE k X G W o fo)
    (hbase : attributeBase o name X.env (eval o X.env) = eval o X.env := by rfl) (hline : (apos.endLine == cpos.line) = true := by rfl) : DE k X G W (.Call (.Attribute o name apos) [] [] cpos) (eMt0 F fo) := fun cc => by
  refine ⟨fun pins s σ H Q I ⟨δ, μ, ι, rs, q⟩ => ?_⟩
  have q' : rE G W fo σ H fun x H1 => tyV G.K "list" x H1 ∧ ∃ δ μ ι d, RS G σ H1 δ μ ι ∧ DV G H1 ι d x ∧ RR G W σ δ (DV G) H1 ι (mtF F d [] μ) Q := ⟨δ, μ, ι, rs, RR.bnd q fun d μ1 x H1 ι1 x1 p1 rs1 dx q => by
    refine ⟨?_, δ, μ1, ι1, d, rs1, dx, q⟩
    cases d with
    | ref n =>
      simp only [mtF] at q
      cases e : (μ1[n]? : Option (Option MO)) with
      | none => simp only [e] at q; exact q.elim
      | some om =>
        cases om with
        | none => simp only [e] at q; exact q.elim
        | some m =>
          cases m with
          | lst l =>
            obtain ⟨ad, ys, rfl, sq, dl⟩ := lst_view (l := l) rs1 dx (by simp [lstOf, e])
            exact .inl ⟨rfl, ys, sq⟩
          | _ => simp only [e] at q; exact q.elim
    | _ => exact q.elim⟩
  refine wpAny_Call_method0_late hbase hline (thn ((ho cc).run pins s σ H _ I q') fun v s1 ⟨x, H1, I1, r1, ty, δ, μ, ι, d, rs, dx, q1⟩ => ?_)
  obtain ⟨h1, h2⟩ := tyV_is I1 r1 (by rw [cc.hK]; exact ty)
  exact ⟨"list", id, PySem.F.plainAttrs_list, slot, hty, h1, h2, Calls.callWith_builtin rfl (PySem.evalArgs_none (mt_run h cc I1 r1 .nil rs dx (show DVs G H1 ι [] [] from rfl) q1))⟩
@[simp] def appD (n : Nat) (l ds : List D) (μ : MH) : R D := match ds with
  | [y] => if l.length < sizeLine then .ok .non (μ.set n (some (.lst (l ++ [y])))) else .no
  | _ => .no
theorem md_app : MtD k X G W "list.append" appD := fun cc pins s σ H δ μ ι n l ds x vs v us Q I rx rv rs dx e dv q => by
  unfold appD at q
  split at q
  · rename_i y
    obtain ⟨yv, rfl, dy⟩ := dvs1 dv
    by_cases hl : l.length < sizeLine
    · rw [if_pos hl] at q
      obtain ⟨ad, ea, rfl⟩ := dx
      obtain ⟨ys, e1, dl⟩ := rs.hs.there e ea
      have xx : Ext H (upd H ad (.lst (ys ++ [yv]))) := Ext.upd_chg e1 trivial
      obtain ⟨x1, rs1⟩ := RS.wr (m' := .lst (l ++ [y])) (o := .lst (ys ++ [yv])) rs e ea ⟨_, upd_same, DVs.mono xx (List.prefix_refl _) _ _ (dl.append (.cons dy rfl))⟩
      exact mt_append pins s σ H _ _ v us Q I rx rv ⟨ad, ys, yv, rfl, rfl, e1, by rw [← dl.length]; exact hl, q _ _ ι x1 (List.prefix_refl _) rs1 rfl⟩
    · rw [if_neg hl] at q; exact q.elim
  · exact q.elim
@[simp] def popD (n : Nat) (l ds : List D) (μ : MH) : R D := match ds with
  | [] => match l[l.length - 1]? with
    | some y => .ok y (μ.set n (some (.lst l.dropLast)))
    | none => .no
  | _ => .no
theorem md_pop : MtD k X G W "list.pop" popD := fun cc pins s σ H δ μ ι n l ds x vs v us Q I rx rv rs dx e dv q => by
  unfold popD at q
  split at q
  · cases hy : l[l.length - 1]? with
    | none => simp only [hy] at q; exact q.elim
    | some y =>
      simp only [hy] at q
      obtain rfl : vs = [] := dv
      obtain ⟨ad, ea, rfl⟩ := dx
      obtain ⟨ys, e1, dl⟩ := rs.hs.there e ea
      obtain ⟨yv, hv, dy⟩ := dl.get hy
      have xx : Ext H (upd H ad (.lst ys.dropLast)) := Ext.upd_chg e1 trivial
      obtain ⟨x1, rs1⟩ := RS.wr (m' := .lst l.dropLast) (o := .lst ys.dropLast) rs e ea ⟨_, upd_same, DVs.mono xx (List.prefix_refl _) _ _ dl.dropLast⟩
      exact mt_pop pins s σ H _ _ v us Q I rx rv ⟨ad, ys, yv, rfl, rfl, e1, by rw [← dl.length]; exact hv, q _ _ ι x1 (List.prefix_refl _) rs1 (DV.mono xx (List.prefix_refl _) _ _ dy)⟩
  · exact q.elim
@[simp] def revD (n : Nat) (l ds : List D) (μ : MH) : R D := match ds with
  | [] => .ok .non (μ.set n (some (.lst l.reverse)))
  | _ => .no
theorem md_rev : MtD k X G W "list.reverse" revD := fun cc pins s σ H δ μ ι n l ds x vs v us Q I rx rv rs dx e dv q => by
  unfold revD at q
  split at q
  · obtain rfl : vs = [] := dv
    obtain ⟨ad, ea, rfl⟩ := dx
    obtain ⟨ys, e1, dl⟩ := rs.hs.there e ea
    have xx : Ext H (upd H ad (.lst ys.reverse)) := Ext.upd_chg e1 trivial
    obtain ⟨x1, rs1⟩ := RS.wr (m' := .lst l.reverse) (o := .lst ys.reverse) rs e ea ⟨_, upd_same, DVs.mono xx (List.prefix_refl _) _ _ dl.reverse⟩
    exact mt_reverse pins s σ H _ _ v us Q I rx rv ⟨ad, ys, rfl, rfl, e1, q _ _ ι x1 (List.prefix_refl _) rs1 rfl⟩
  · exact q.elim
/-- xs.extend(ys), ys not xs -/
@[simp] def extD (n : Nat) (l ds : List D) (μ : MH) : R D := match ds with
  | [y] => match lstOf μ y with
    | some m => if l.length + m.length ≤ sizeLine then .ok .non (μ.set n (some (.lst (l ++ m)))) else .no
    | none => .no
  | _ => .no
theorem list_extW (l : Addr) (items : Array Value) (n : Nat) (b : Addr) (items2 : Array Value) (n2 : Nat) (dd2 : Option Addr) (sl2 : Array (Option Value)) (hc0 : ¬(!items.isEmpty && Builtin.List.listTooLong (items.size + items2.size)) = true) (h1 : items.size ≤ sizeLine) (h2 : items.size + items2.size ≤ sizeLine) :
    Meets (Builtin.«list.extend» ⟨[.ref l, .ref b], []⟩) (fun _ R s => s.heap.get? l = some { cls := .type "list", dict := none, data := .seq items n, slots := #[] } ∧ s.heap.get? b = some { cls := .type "list", dict := dd2, data := .seq items2 n2, slots := sl2 } ∧
      R (.ok (.ret Value.none)) { s with heap := s.heap.update l (Obj.mapSeq fun xs => xs ++ items2), toks := s.toks }) :=
  .of_wp fun prog w A R s h => by
    obtain ⟨hp, g, d, tk, os⟩ := s
    obtain ⟨hl, hb, h⟩ := h
    have f1 := AutoSeq1.idx_int; have f2 := AutoSeq1.sub_tuple_tuple; have f3 := AutoSeq1.sub_list_list; have f4 := AutoSeq1.sub_tuple_list; have f5 := AutoSeq1.sub_list_tuple
    have hz : (items ++ items2).size ≤ sizeLine + 1 := by rw [Array.size_append]; omega
    wp_walk using (wpAny_updateSeq hl rfl (hz := h1) (_hz' := hz)), wpAny_loadPart' hl, wpAny_loadPart' hb
    exact ⟨_, rfl, h⟩
def rExtL (K : PySem.W.Frag) : V → List V → Hp → VK → Prop := fun x vs H Q => ∃ l b xs zs, x = .ref l ∧ vs = [.ref b] ∧ H l = some (.lst xs) ∧ SqL K H b zs ∧ xs.length + zs.length ≤ sizeLine ∧ Q .non (upd H l (.lst (xs ++ zs)))
theorem mt_extL : MtR X "list.extend" (rExtL X.K) := by
  intro pins s σ H x vs v us Q I rx rv h
  obtain ⟨l, b, xs, zs, rfl, rfl, hH, hB, hz, q⟩ := h
  cases rx
  obtain ⟨u, rfl, ru⟩ := rv.one
  cases ru
  obtain ⟨z, its, n, r, hl, e⟩ := I.lstM hH
  obtain ⟨its2, r2, ⟨⟨oc, od, dt, sl⟩, n2, e2, c2, d2, t2⟩, z2⟩ := I.list hB
  simp only at c2 d2 t2
  subst c2 d2 t2
  have hl2 := r2.length
  have hsz : its.toArray.size + its2.toArray.size ≤ sizeLine := by rw [List.size_toArray, List.size_toArray]; omega
  have hlong : ¬ (!its.toArray.isEmpty && Builtin.List.listTooLong (its.toArray.size + its2.toArray.size)) = true := by
    rw [notLongL hsz, Bool.and_false]
    exact Bool.false_ne_true
  refine call_meets PySem.F.slot_list_extend ⟨_, e, rfl⟩ PySem.F.entry_list_extend (PySem.F.args_list_extend_2 _ _) (list_extW l its.toArray n b its2.toArray n2 none sl hlong (by rw [List.size_toArray]; omega) hsz) ⟨e, e2, ?_⟩
  refine ⟨.non, _, I.lset (its' := its ++ its2) hH e (by simp) (r.append r2) ?_, rfl, q⟩
  rw [List.length_append]
  omega
theorem md_ext : MtD k X G W "list.extend" extD := fun cc pins s σ H δ μ ι n l ds x vs v us Q I rx rv rs dx e dv q => by
  unfold extD at q
  split at q
  · rename_i y
    obtain ⟨yv, rfl, dy⟩ := dvs1 dv
    cases hy : lstOf μ y with
    | none => simp only [hy] at q; exact q.elim
    | some m =>
      simp only [hy] at q
      by_cases hl : l.length + m.length ≤ sizeLine
      · rw [if_pos hl] at q
        obtain ⟨ad, ea, rfl⟩ := dx
        obtain ⟨xs, e1, dl⟩ := rs.hs.there e ea
        obtain ⟨ad2, zs, rfl, sq, dm⟩ := lst_view rs dy hy
        have xx : Ext H (upd H ad (.lst (xs ++ zs))) := Ext.upd_chg e1 trivial
        obtain ⟨x1, rs1⟩ := RS.wr (m' := .lst (l ++ m)) (o := .lst (xs ++ zs)) rs e ea ⟨_, upd_same, DVs.mono xx (List.prefix_refl _) _ _ (dl.append dm)⟩
        exact mt_extL pins s σ H _ _ v us Q I rx rv ⟨ad, ad2, xs, zs, rfl, rfl, e1, by rw [cc.hK]; exact sq, by rw [← dl.length, ← dm.length]; exact hl, q _ _ ι x1 (List.prefix_refl _) rs1 rfl⟩
      · rw [if_neg hl] at q; exact q.elim
  · exact q.elim
end
end SZ
end
section
/-! SZ, part M: list comprehensions. -/
namespace SZ
open PySem PySem.Spec PyProof.Rows L2
@[simp] def R.nox {α : Type} (r : R α) : R α := match r with
  | .ok a μ => .ok a μ
  | _ => .no
/-- the slots of a block's own names forgotten -/
def wipeD (δ : Sl) : List Nat → Sl
  | [] => δ
  | v :: vs => (wipeD δ vs).set v none
theorem wipeD_length (δ : Sl) : ∀ vs, (wipeD δ vs).length = δ.length
  | [] => rfl
  | v :: vs => by unfold wipeD; rw [List.length_set, wipeD_length δ vs]
theorem wipe_at (σ : L2.St) : ∀ (vs : List Nat) (i : Nat), (wipe σ vs)[i]? = if i ∈ vs ∧ i < σ.length then some none else σ[i]?
  | [], i => by simp [wipe]
  | v :: vs, i => by
    unfold wipe
    by_cases q : v = i
    · subst q
      by_cases hl : v < σ.length
      · rw [List.getElem?_set_self (by rw [wipe_length]; exact hl), if_pos ⟨List.mem_cons_self, hl⟩]
      · rw [List.getElem?_eq_none (by rw [List.length_set, wipe_length]; omega), if_neg (fun z => hl z.2), List.getElem?_eq_none (by omega)]
    · rw [List.getElem?_set_ne q, wipe_at σ vs i]
      have : (i ∈ v :: vs ∧ i < σ.length) ↔ (i ∈ vs ∧ i < σ.length) := by
        rw [List.mem_cons]
        constructor
        · rintro ⟨rfl | h, h2⟩
          · exact absurd rfl q
          · exact ⟨h, h2⟩
        · exact fun h => ⟨.inr h.1, h.2⟩
      simp only [this]
theorem wipeD_at (σ : Sl) : ∀ (vs : List Nat) (i : Nat), (wipeD σ vs)[i]? = if i ∈ vs ∧ i < σ.length then some none else σ[i]?
  | [], i => by simp [wipeD]
  | v :: vs, i => by
    unfold wipeD
    by_cases q : v = i
    · subst q
      by_cases hl : v < σ.length
      · rw [List.getElem?_set_self (by rw [wipeD_length]; exact hl), if_pos ⟨List.mem_cons_self, hl⟩]
      · rw [List.getElem?_eq_none (by rw [List.length_set, wipeD_length]; omega), if_neg (fun z => hl z.2), List.getElem?_eq_none (by omega)]
    · rw [List.getElem?_set_ne q, wipeD_at σ vs i]
      have : (i ∈ v :: vs ∧ i < σ.length) ↔ (i ∈ vs ∧ i < σ.length) := by
        rw [List.mem_cons]
        constructor
        · rintro ⟨rfl | h, h2⟩
          · exact absurd rfl q
          · exact ⟨h, h2⟩
        · exact fun h => ⟨.inr h.1, h.2⟩
      simp only [this]
theorem wipe_eq {σ σ2 : L2.St} {vs : List Nat} (h : Out vs (wipe σ vs) σ2) : wipe σ2 vs = wipe σ vs := by
  have hl : σ2.length = σ.length := by rw [h.1, wipe_length]
  refine List.ext_getElem? fun i => ?_
  rw [wipe_at, wipe_at]
  by_cases q : i ∈ vs
  · rw [hl]
    by_cases z : i < σ.length
    · rw [if_pos ⟨q, z⟩, if_pos ⟨q, z⟩]
    · rw [if_neg (fun w => z w.2), if_neg (fun w => z w.2), List.getElem?_eq_none (by omega), List.getElem?_eq_none (by omega)]
  · have := h.2 i q
    rw [wipe_at, if_neg (fun w => q w.1)] at this
    rw [if_neg (fun w => q w.1), if_neg (fun w => q w.1), this]
abbrev W0 : WX := fun _ _ _ _ => False
section
variable {k : Nat} {X : Cx} {G : Glo} {W : WX} {a b c : Expr} {fa fb fc fe : EF} {ta tb ft : TF} {pos p : Pos} {es : List Expr} {fs : AF}
theorem RS.wipe {σ : L2.St} {H : Hp} {δ : Sl} {μ : MH} {ι : List Addr} (rs : RS G σ H δ μ ι) (vs : List Nat) : RS G (wipe σ vs) H (wipeD δ vs) μ ι := by
  refine ⟨rs.hs, by rw [wipeD_length, wipe_length, rs.ln], fun i d e => ?_⟩
  rw [wipeD_at] at e
  rw [wipe_at]
  by_cases q : i ∈ vs ∧ i < δ.length
  · rw [if_pos q] at e; cases e
  · rw [if_neg q] at e
    rw [← rs.ln, if_neg q]
    exact rs.sl i d e
/-- the turns: the new list is the mutable object n -/
def lcL (n : Nat) (chk : MH → Bool) (g : GF) (t : TF) (fe : EF) (δw : Sl) : List D → MH → R D
  | [], μ => if chk μ = true then .ok (.ref n) μ else .no
  | d :: r, μ => if chk μ = true then match g d δw μ with
      | .ok δ2 μ => (t δ2 μ).nox.bind fun b μ => if b = true then (fe δ2 μ).nox.bind fun y μ => match μ[n]? with
            | some (some (.lst acc)) => if acc.length < sizeLine then lcL n chk g t fe δw r (μ.set n (some (.lst (acc ++ [y])))) else .no
            | _ => .no
          else lcL n chk g t fe δw r μ
      | _ => .no
    else .no
/-- a list that may change -/
@[simp] def eLcM (vs : List Nat) (fi : IF) (g : GF) (t : TF) (fe : EF) : EF := fun δ μ => (fi δ μ).bind fun c μ => lcL μ.length c.1 g t fe (wipeD δ vs) c.2 (μ ++ [some (.lst [])])
def tYesD : TF := fun _ μ => .ok true μ
def DTs (k : Nat) (X : Cx) (G : Glo) (W : WX) (ifs : List Expr) (t : TF) : Prop := CC k X G W → PTs X ifs (rT G W t)
theorem dts_nil : DTs k X G W [] tYesD := fun cc => ⟨fun pins s σ H Q I ⟨δ, μ, ι, rs, q⟩ => pts_nil.run pins s σ H Q I (show Q true H from q.now rs rfl)⟩
theorem dts_one (h : DT k X G W c ta) : DTs k X G W [c] ta := fun cc => pts_one (h cc)
theorem RR.nb {α β γ ε : Type} {σ σ' : L2.St} {δ δ' : Sl} {rel : Hp → List Addr → α → β → Prop} {rel2 : Hp → List Addr → γ → ε → Prop} {H H1 : Hp} {ι ι1 : List Addr} {r : R α} {kk : α → MH → R γ} {P : ε → Hp → Prop} {Q : β → Hp → Prop} {Wx : WX} (h : RR G W σ δ rel2 H ι (r.nox.bind kk) P) (x : Ext H H1) (p : ι <+: ι1)
    (hk : ∀ a μ b H' ι', Ext H1 H' → ι1 <+: ι' → RS G σ' H' δ' μ ι' → rel H' ι' a b → RR G W σ δ rel2 H' ι' (kk a μ) P → Q b H') : RR G Wx σ' δ' rel H1 ι1 r Q := by
  cases r with
  | ok a μ => exact fun b H' ι' x' p' rs hb => hk a μ b H' ι' x' p' rs hb (RR.at_ h (x.trans x') (p.trans p'))
  | ex c ds μ => exact h.elim
  | no => exact h.elim
/-- what a comprehension's reading wants of the turns -/
theorem lc_walk {σ : L2.St} {H : Hp} {δ : Sl} {μ : MH} {ι : List Addr} {own : List (Str × Nat)} {gf : GF} {chk : MH → Bool} {full : List D} {J : It} {base : Hp → List Addr → Prop} {Q : VK}
    (rs : RS G σ H δ μ ι) (b1 : base H ι) (bm : ∀ H H' ι ι', Ext H H' → ι <+: ι' → base H ι → base H' ι') (wk : WkOk G J chk full base)
    (q : RR G W σ δ (DV G) H ι (lcL μ.length chk gf ft fe (wipeD δ (own.map (·.2))) full (μ ++ [some (.lst [])])) Q) (D : Addr) (hD : H D = none) :
    ∃ W1 : Nat → Nat → Hp → Prop, (∃ m, W1 0 m (upd H D (.lst []))) ∧ ∀ i m H, W1 i m H →
      (J.stop i H ∧ Q (.ref D) H) ∨ (J.go i H ∧ ∃ Nx : Hp → Prop, (∀ H', Nx H' → ∃ m', m' < m ∧ W1 (i + 1) m' H') ∧ ∀ x H', J.yld i H x H' → rG G (own.map (·.2)) gf x (L2.wipe σ (own.map (·.2))) H' fun σ2 H2 => L2.wipe σ2 (own.map (·.2)) = L2.wipe σ (own.map (·.2)) ∧ rT G W0 ft σ2 H2 fun b H3 =>
        if b = true then rE G W0 fe σ2 H3 fun y H4 => ∃ acc, H4 D = some (.lst acc) ∧ acc.length < sizeLine ∧ Nx (upd H4 D (.lst (acc ++ [y]))) else Nx H3) := by
  -- the list stands in the mutable heap, at D
  have xD : Ext H (upd H D (.lst [])) := Ext.upd_free hD
  have hsD : HS G (upd H D (.lst [])) (μ ++ [some (.lst [])]) (ι ++ [D]) := rs.hs.alloc hD _ ⟨[], upd_same, rfl⟩
  have hn : (ι ++ [D])[μ.length]? = some D := by rw [← rs.hs.ln]; simp
  refine ⟨fun i m H' => i + m = full.length ∧ ∃ μ' ι', Ext H H' ∧ ι ++ [D] <+: ι' ∧ RS G σ H' δ μ' ι' ∧ base H' ι' ∧ RR G W σ δ (DV G) H' ι' (lcL μ.length chk gf ft fe (wipeD δ (own.map (·.2))) (full.drop i) μ') Q,
    ⟨full.length, by omega, _, _, xD, List.prefix_refl _, rs.ext xD (List.prefix_append _ _) hsD, bm _ _ _ _ xD (List.prefix_append _ _) b1, by simpa using RR.at_ q xD (List.prefix_append _ _)⟩, ?_⟩
  rintro i m H1 ⟨hm, μ1, ι1, x1, p1, rs1, b1, q⟩
  have pp : ι <+: ι1 := (List.prefix_append _ _).trans p1
  cases ed : full.drop i with
  | nil =>
    rw [ed] at q
    unfold lcL at q
    have hl : full.length ≤ i := List.drop_eq_nil_iff.mp ed
    obtain rfl : i = full.length := by omega
    by_cases hc : chk μ1 = true
    · rw [if_pos hc] at q
      exact .inl ⟨(wk σ H1 δ μ1 ι1 rs1 b1 hc).1, q.now rs1 ⟨D, pre_get p1 hn, rfl⟩⟩
    · rw [if_neg hc] at q; exact q.elim
  | cons d r =>
    rw [ed] at q
    unfold lcL at q
    have hd : full[i]? = some d := by
      have := congrArg List.head? ed
      rw [List.head?_drop] at this
      exact this
    have hr : full.drop (i + 1) = r := by
      have := congrArg List.tail ed
      rw [List.tail_drop] at this
      exact this
    by_cases hc : chk μ1 = true
    · rw [if_pos hc] at q
      obtain ⟨go, yld⟩ := (wk σ H1 δ μ1 ι1 rs1 b1 hc).2 i d hd
      have hlt : i < full.length := (List.getElem?_eq_some_iff.mp hd).1
      refine .inr ⟨go, fun H' => ∃ μ' ι', Ext H H' ∧ ι ++ [D] <+: ι' ∧ RS G σ H' δ μ' ι' ∧ base H' ι' ∧ RR G W σ δ (DV G) H' ι' (lcL μ.length chk gf ft fe (wipeD δ (own.map (·.2))) r μ') Q,
        fun H' ⟨μ', ι', z1, z2, z3, z4, z5⟩ => ⟨m - 1, by omega, by omega, μ', ι', z1, z2, z3, z4, by rw [hr]; exact z5⟩, fun x H2 y => ?_⟩
      obtain ⟨x2, rs2, dx⟩ := yld x H2 y
      have x12 := x1.trans x2
      refine ⟨_, _, _, d, rs2.wipe (own.map (·.2)), dx, ?_⟩
      cases eg : gf d (wipeD δ (own.map (·.2))) μ1 with
      | ex _ _ _ => simp only [eg] at q; exact q.elim
      | no => simp only [eg] at q; exact q.elim
      | ok δ3 μ3 =>
        simp only [eg] at q
        refine fun σ3 H3 ι3 x3 p3 rs3 ou => ⟨wipe_eq ou, δ3, μ3, ι3, rs3, RR.nb q (x2.trans x3) p3 fun b μ4 bb H4 ι4 x4 p4 rs4 eb q => ?_⟩
        subst eb
        cases b with
        | false =>
          rw [if_neg Bool.false_ne_true] at q ⊢
          have xx := (x2.trans x3).trans x4
          exact ⟨μ4, ι4, x1.trans xx, p1.trans (p3.trans p4), rs1.ext xx (p3.trans p4) rs4.hs, bm _ _ _ _ xx (p3.trans p4) b1, q⟩
        | true =>
          rw [if_pos rfl] at q ⊢
          refine ⟨δ3, μ4, ι4, rs4, RR.nb q .refl (List.prefix_refl _) fun yd μ5 yv H5 ι5 x5 p5 rs5 dy q => ?_⟩
          have xx := ((x2.trans x3).trans x4).trans x5
          have p35 := (p3.trans p4).trans p5
          have rs5' : RS G σ H5 δ μ5 ι5 := rs1.ext xx p35 rs5.hs
          cases em : (μ5[μ.length]? : Option (Option MO)) with
          | none => simp only [em] at q; exact q.elim
          | some om =>
            cases om with
            | none => simp only [em] at q; exact q.elim
            | some mm =>
              cases mm with
              | lst acc =>
                simp only [em] at q
                by_cases hl : acc.length < sizeLine
                · rw [if_pos hl] at q
                  have hD5 : ι5[μ.length]? = some D := pre_get (p1.trans p35) hn
                  obtain ⟨ys, e1, dl⟩ := rs5.hs.there em hD5
                  have xw : Ext H5 (upd H5 D (.lst (ys ++ [yv]))) := Ext.upd_chg e1 trivial
                  obtain ⟨x6, rs6⟩ := RS.wr (m' := .lst (acc ++ [yd])) (o := .lst (ys ++ [yv])) rs5' em hD5 ⟨_, upd_same, DVs.mono xw (List.prefix_refl _) _ _ (dl.append (.cons dy rfl))⟩
                  exact ⟨ys, e1, by rw [← dl.length]; exact hl, _, ι5, (x1.trans xx).trans x6, p1.trans p35, rs6, bm _ _ _ _ (xx.trans x6) p35 b1, RR.at_ q x6 (List.prefix_refl _)⟩
                · rw [if_neg hl] at q; exact q.elim
              | _ => simp only [em] at q; exact q.elim
    · rw [if_neg hc] at q; exact q.elim
/-- the context of a comprehension's block is calm -/
theorem CC.blk (cc : CC k X G W) (s : Shared) (H : Hp) (scope : Scope) (cenv : Env) (fp : List Addr) : CC k (X.blk s H scope cenv fp) G W0 :=
  ⟨cc.hP, cc.hw, cc.hK, cc.hm, cc.calm, cc.room, cc.nd, takes0, PassesOwn.never, cc.xa⟩
theorem lc_read {σ : L2.St} {H : Hp} {own : List (Str × Nat)} {fi : IF} {gf : GF} {Q : VK} (q : rE G W (eLcM (own.map (·.2)) fi gf ft fe) σ H Q) : tLc (rI G W fi) (rG G (own.map (·.2)) gf) (rT G W0 ft) (rE G W0 fe) (own.map (·.2)) σ H Q := by
  obtain ⟨δ, μ, ι, rs, q⟩ := q
  exact ⟨δ, μ, ι, rs, RR.bnd q fun c μ1 J H1 ι1 x1 p1 rs1 ⟨base, b1, bm, wk⟩ q D hD => lc_walk rs1 b1 bm wk q D hD⟩
theorem de_lcM {elt tg iter : Expr} {ifs : List Expr} {scope : Scope} {fi : IF} {gf : GF} (own : List (Str × Nat)) (hi : DI k X G W tg iter fi) (ok : BlkOk X.N X.env.scope scope own)
    (hg : ∀ (s : Shared) (H : Hp) (C : Addr) (cl : List (Str × Addr)) (fp : List Addr), DG k (X.blk s H scope (compEnvC scope cl C X.env) fp) G W0 (own.map (·.2)) tg gf)
    (ht : ∀ (s : Shared) (H : Hp) (C : Addr) (cl : List (Str × Addr)) (fp : List Addr), DTs k (X.blk s H scope (compEnvC scope cl C X.env) fp) G W0 ifs ft)
    (he : ∀ (s : Shared) (H : Hp) (C : Addr) (cl : List (Str × Addr)) (fp : List Addr), DE k (X.blk s H scope (compEnvC scope cl C X.env) fp) G W0 elt fe) (hs : ∀ x, foldedSetIterable iter X.env x = pure x := by intro _; rfl) :
    DE k X G W (.ListComp elt [⟨tg, iter, ifs, 0⟩] scope pos) (eLcM (own.map (·.2)) fi gf ft fe) := fun cc =>
  peI (pe_lc cc.calm cc.nd (hi cc) ok (fun s H C cl fp => hg s H C cl fp (cc.blk ..)) (fun s H C cl fp => ht s H C cl fp (cc.blk ..)) (fun s H C cl fp => he s H C cl fp (cc.blk ..)) hs) fun σ H Q q => lc_read q
theorem ds_setLcM {elt tg iter : Expr} {ifs : List Expr} {scope : Scope} {fi : IF} {gf : GF} (i : Nat) {y : Str} {py spos : Pos} (own : List (Str × Nat)) (hi : DI k X G W tg iter fi) (ok : BlkOk X.N X.env.scope scope own)
    (hg : ∀ (s : Shared) (H : Hp) (C : Addr) (cl : List (Str × Addr)) (fp : List Addr), DG k (X.blk s H scope (compEnvC scope cl C X.env) fp) G W0 (own.map (·.2)) tg gf)
    (ht : ∀ (s : Shared) (H : Hp) (C : Addr) (cl : List (Str × Addr)) (fp : List Addr), DTs k (X.blk s H scope (compEnvC scope cl C X.env) fp) G W0 ifs ft)
    (he : ∀ (s : Shared) (H : Hp) (C : Addr) (cl : List (Str × Addr)) (fp : List Addr), DE k (X.blk s H scope (compEnvC scope cl C X.env) fp) G W0 elt fe)
    (hsw : swapsWith (.ListComp elt [⟨tg, iter, ifs, 0⟩] scope pos) (some (.Name y py)) spos.line X.env = pure true) (hy : X.N[i]? = some y := by rfl) (hyl : X.env.scope.names.lookup y = some .local := by rfl) (hs : ∀ x, foldedSetIterable iter X.env x = pure x := by intro _; rfl) :
    DS k X G W (.Assign [.Name y py] (.ListComp elt [⟨tg, iter, ifs, 0⟩] scope pos) spos) (sAsg (eLcM (own.map (·.2)) fi gf ft fe) (gNm i)) := fun cc =>
  psI (ps_setLc cc.calm cc.nd hy hyl hsw (hi cc) ok (fun s H C cl fp => hg s H C cl fp (cc.blk ..)) (fun s H C cl fp => ht s H C cl fp (cc.blk ..)) (fun s H C cl fp => he s H C cl fp (cc.blk ..)) hs) fun D σ H ⟨δ, μ, ι, rs, q⟩ =>
    lc_read (Q := fun x H1 => gName i x σ H1 D.nx) ⟨δ, μ, ι, rs, RR.to q fun d μ1 x H1 ι1 x1 p1 rs1 dx q => q _ H1 ι1 .refl (List.prefix_refl _) (rs1.set i dx)⟩
/-! ### a list that never changes: what was only the block's is forgotten -/
/-- freeze, then forget -/
@[simp] def frzT (μ0 : MH) (d : D) (μ : MH) : R D := trunc μ0 (frzD d μ)
end
end SZ
end
section
/-! SZ, part N: comprehensions as lists that never change; enumerate. -/
namespace SZ
open PySem PySem.Spec PyProof.Rows L2
section
variable {k : Nat} {X : Cx} {G : Glo} {W : WX} {a b c : Expr} {fa fb fc fe : EF} {ta tb ft : TF} {pos p : Pos} {es : List Expr} {fs : AF}
theorem trunc_read {σ : L2.St} {H : Hp} {δ : Sl} {μ : MH} {ι : List Addr} {r : R D} {Q : VK} (rs : RS G σ H δ μ ι) (q : RR G W σ δ (DV G) H ι (trunc μ r) Q) : RR G W σ δ (DV G) H ι r Q := by
  cases r with
  | no => exact q
  | ok d μ' =>
    unfold trunc at q
    by_cases hc : (d.bel μ.length && keepOk μ.length μ μ') = true
    · simp only [hc, if_true] at q
      rw [Bool.and_eq_true] at hc
      refine fun v H' ι' x p rs' dv => q v H' ι x (List.prefix_refl _) (rs.ext x (List.prefix_refl _) (rs.hs.cut rs'.hs p hc.2)) ?_
      have hi : ι'.take ι.length = ι := by
        obtain ⟨t, rfl⟩ := p
        rw [List.take_left]
      have := DV.take ι.length d v (by rw [rs.hs.ln]; exact hc.1) dv
      rwa [hi] at this
    · simp only [hc, if_false] at q
      exact q
  | ex c es μ' =>
    unfold trunc at q
    by_cases hc : (bels μ.length es && keepOk μ.length μ μ') = true
    · simp only [hc, if_true] at q
      rw [Bool.and_eq_true] at hc
      exact fun cls dd H' ι' x p rs' xr => q cls dd H' ι x (List.prefix_refl _) (rs.ext x (List.prefix_refl _) (rs.hs.cut rs'.hs p hc.2)) (xr.ext (by rw [rs.hs.ln]; exact hc.1) p)
    · simp only [hc, if_false] at q
      exact q
/-- [e for ..] as a list that never changes -/
@[simp] def eLc (vs : List Nat) (fi : IF) (g : GF) (t : TF) (fe : EF) : EF := fun δ μ => (fi δ μ).bind fun c μ => trunc μ ((lcL μ.length c.1 g t fe (wipeD δ vs) c.2 (μ ++ [some (.lst [])])).bind frzD)
theorem lcF_readG {σ : L2.St} {H : Hp} {own : List (Str × Nat)} {fi : IF} {gf : GF} {Q Q' : VK} (hQ : ∀ x H, FQ Q x H → Q' x H) (q : rE G W (eLc (own.map (·.2)) fi gf ft fe) σ H Q) : tLc (rI G W fi) (rG G (own.map (·.2)) gf) (rT G W0 ft) (rE G W0 fe) (own.map (·.2)) σ H Q' := by
  obtain ⟨δ, μ, ι, rs, q⟩ := q
  exact ⟨δ, μ, ι, rs, RR.bnd q fun c μ1 J H1 ι1 x1 p1 rs1 ⟨base, b1, bm, wk⟩ q D hD => lc_walk rs1 b1 bm wk (RR.bnd (trunc_read rs1 q) fun d μ2 v H2 ι2 x2 p2 rs2 dx q => hQ _ _ (frz_read rs2 dx q)) D hD⟩
theorem lcF_read {σ : L2.St} {H : Hp} {own : List (Str × Nat)} {fi : IF} {gf : GF} {Q : VK} (q : rE G W (eLc (own.map (·.2)) fi gf ft fe) σ H Q) : tLc (rI G W fi) (rG G (own.map (·.2)) gf) (rT G W0 ft) (rE G W0 fe) (own.map (·.2)) σ H (FQ Q) := lcF_readG (fun _ _ h => h) q
theorem de_lc {elt tg iter : Expr} {ifs : List Expr} {scope : Scope} {fi : IF} {gf : GF} (own : List (Str × Nat)) (hi : DI k X G W tg iter fi) (ok : BlkOk X.N X.env.scope scope own)
    (hg : ∀ (s : Shared) (H : Hp) (C : Addr) (cl : List (Str × Addr)) (fp : List Addr), DG k (X.blk s H scope (compEnvC scope cl C X.env) fp) G W0 (own.map (·.2)) tg gf)
    (ht : ∀ (s : Shared) (H : Hp) (C : Addr) (cl : List (Str × Addr)) (fp : List Addr), DTs k (X.blk s H scope (compEnvC scope cl C X.env) fp) G W0 ifs ft)
    (he : ∀ (s : Shared) (H : Hp) (C : Addr) (cl : List (Str × Addr)) (fp : List Addr), DE k (X.blk s H scope (compEnvC scope cl C X.env) fp) G W0 elt fe) (hs : ∀ x, foldedSetIterable iter X.env x = pure x := by intro _; rfl) :
    DE k X G W (.ListComp elt [⟨tg, iter, ifs, 0⟩] scope pos) (eLc (own.map (·.2)) fi gf ft fe) := fun cc =>
  peI (pe_frz (pe_lc cc.calm cc.nd (hi cc) ok (fun s H C cl fp => hg s H C cl fp (cc.blk ..)) (fun s H C cl fp => ht s H C cl fp (cc.blk ..)) (fun s H C cl fp => he s H C cl fp (cc.blk ..)) hs)) fun σ H Q q => lcF_read q
/-- a value of the state behind a statement may be frozen -/
def FN (Q : L2.St → Hp → Prop) : L2.St → Hp → Prop := fun σ H => (∃ a u, H a = some u ∧ Frz u ∧ ∀ o, Q σ (upd H a (.frz o u))) ∨ Q σ H
theorem ps_frzN {st : Stmt} {t : TS} (h : PS X st t) : PS X st (fun D σ H => t { D with nx := FN D.nx } σ H) := by
  refine ⟨fun pins s σ H D I q => thn (h.run pins s σ H _ I q) fun f s' z => ?_⟩
  cases f with
  | next =>
    obtain ⟨σ', H', I', z⟩ := z
    rcases z with ⟨a, u, e, f, z⟩ | z
    · obtain ⟨o, I2⟩ := freeze I' e f
      exact ⟨σ', _, I2, z o⟩
    · exact ⟨σ', H', I', z⟩
  | ret v => exact z
  | brk => exact z
  | cont => exact z
theorem ds_setLc {elt tg iter : Expr} {ifs : List Expr} {scope : Scope} {fi : IF} {gf : GF} (i : Nat) {y : Str} {py spos : Pos} (own : List (Str × Nat)) (hi : DI k X G W tg iter fi) (ok : BlkOk X.N X.env.scope scope own)
    (hg : ∀ (s : Shared) (H : Hp) (C : Addr) (cl : List (Str × Addr)) (fp : List Addr), DG k (X.blk s H scope (compEnvC scope cl C X.env) fp) G W0 (own.map (·.2)) tg gf)
    (ht : ∀ (s : Shared) (H : Hp) (C : Addr) (cl : List (Str × Addr)) (fp : List Addr), DTs k (X.blk s H scope (compEnvC scope cl C X.env) fp) G W0 ifs ft)
    (he : ∀ (s : Shared) (H : Hp) (C : Addr) (cl : List (Str × Addr)) (fp : List Addr), DE k (X.blk s H scope (compEnvC scope cl C X.env) fp) G W0 elt fe)
    (hsw : swapsWith (.ListComp elt [⟨tg, iter, ifs, 0⟩] scope pos) (some (.Name y py)) spos.line X.env = pure true) (hy : X.N[i]? = some y := by rfl) (hyl : X.env.scope.names.lookup y = some .local := by rfl) (hs : ∀ x, foldedSetIterable iter X.env x = pure x := by intro _; rfl) :
    DS k X G W (.Assign [.Name y py] (.ListComp elt [⟨tg, iter, ifs, 0⟩] scope pos) spos) (sAsg (eLc (own.map (·.2)) fi gf ft fe) (gNm i)) := fun cc =>
  psI (ps_frzN (ps_setLc cc.calm cc.nd hy hyl hsw (hi cc) ok (fun s H C cl fp => hg s H C cl fp (cc.blk ..)) (fun s H C cl fp => ht s H C cl fp (cc.blk ..)) (fun s H C cl fp => he s H C cl fp (cc.blk ..)) hs)) fun D σ H ⟨δ, μ, ι, rs, q⟩ => by
    refine lcF_readG (W := W) (ft := ft) (fe := fe) (own := own) (fi := fi) (gf := gf) (Q := fun x H1 => D.nx (σ.set i (some x)) H1) (fun x H1 h => ?_) ⟨δ, μ, ι, rs, RR.to q fun d μ1 x H1 ι1 x1 p1 rs1 dx q => q _ H1 ι1 .refl (List.prefix_refl _) (rs1.set i dx)⟩
    rcases h with ⟨ad, u, rfl, e, f, z⟩ | z
    · exact .inl ⟨ad, u, e, f, z⟩
    · exact .inr z
/-! ### enumerate -/
def Itet (K : PySem.W.Frag) (a : Addr) : It :=
  ⟨fun i H => ∃ (xs : List V) (x : V), SqT K H a xs ∧ xs[i]? = some x, fun i H v H' => ∃ T x, v = .ref T ∧ H T = none ∧ H' = upd H T (.tup [.int (i : Nat), x]) ∧ ∀ xs, SqT K H a xs → xs[i]? = some x, fun i H => ∃ xs : List V, SqT K H a xs ∧ xs.length = i⟩
theorem turn_enumT {P : Program} {w : World} {K : PySem.W.Frag} {elts : List Expr} {kk : Nat} {tpos : Pos} (a e it : Addr) (hai : a ≠ it) :
    Turn P w K (.Tuple elts kk tpos) (Itet K a) [e, it] e (fun i h => (∃ old, IsEnum h e it ((i : Nat) : Int) old) ∧ h.IsTupleIter it a i ∧ e ≠ it) where
  mem := by simp
  obj := fun i h st b hb => by
    obtain ⟨⟨old, he⟩, ⟨o, ho, hc, hd⟩, _⟩ := st
    rcases (show b = e ∨ b = it by simpa using hb) with z | z
    · rw [z]; exact ⟨_, he, fun v q => nomatch q⟩
    · rw [z]; exact ⟨o, ho, fun v q => by rw [hd] at q; cases q⟩
  keep := fun i h h' st k => let ⟨⟨old, he⟩, hi, hne⟩ := st; ⟨⟨old, k e (by simp) _ he⟩, hi.at fun o q => k it (by simp) o q, hne⟩
  item := by
    intro X hP hw hK hc i pins s σ H E I hf st hg
    subst hP hw hK
    obtain ⟨⟨old, he⟩, hit, hne⟩ := st
    obtain ⟨xs, x, hq, hx⟩ := hg
    obtain ⟨its, rv, p, hz⟩ := I.tuple hq
    have hel : e < s.heap.objs.size := Heap.lt_size he
    have hil : it < s.heap.objs.size := by obtain ⟨_, q, _⟩ := hit; exact Heap.lt_size q
    have hlt : i < its.toArray.size := by
      rw [List.size_toArray, ← rv.length]
      exact (List.getElem?_eq_some_iff.mp hx).1
    have ht : s.heap.IsTuple a its.toArray := p
    have hh : X.A.in1.handled = none := I.ok.hd hc
    refine wpAny_pyNext_enum_itemD (Draws.tuple hh it a hai its.toArray) he ⟨hit, ht⟩ hlt hne (fun hm => ?_) fun u h' tk hu ho hst' hT hsz hk => ?_
    · rcases (show e = it ∨ e = a by simpa using hm) with z | z
      · exact hne z
      · obtain ⟨o, e1, c1, _⟩ := ht
        rw [← z, he] at e1
        cases e1
        exact absurd c1 (by simp)
    · have ru : RelV x u := by
        obtain ⟨u', hu', ru⟩ := rv.get hx
        have : its.toArray[i]? = some u' := by simpa using hu'
        rw [hu] at this
        cases this
        exact ru
      refine ⟨_, rfl, wpAny_letOwnedTupleGo_enum (s := { s with heap := h', toks := tk + 1 }) ho fun h'' he' sb => ?_⟩
      have hT2 : h''.get? s.heap.objs.size = some { cls := .type "tuple", data := .seq #[.int i tk, u] } := (sb.2 _ (Nat.ne_of_gt hel)).trans hT
      have new : ObjOk X.prog X.w (upd H s.heap.objs.size (.tup [.int (i : Nat), x])) h'' s.heap.objs.size (.tup [.int (i : Nat), x]) :=
        ⟨by show 2 ≤ sizeLine; decide, [.int i tk, u], .cons ⟨_, rfl⟩ (.cons ru .nil), ⟨_, hT2, rfl, _, rfl⟩⟩
      have I1 : Inv X pins σ (upd H s.heap.objs.size (.tup [.int (i : Nat), x])) { s with heap := h'', toks := tk + 1 } :=
        I.turnedNew (ch := [e, it]) (fun b ob hb q => (sb.2 b (fun z => hb (by simp [z]))).trans (hk b ob (fun z => hb (by simp [z])) (fun z => hb (by simp [z])) q)) hf (Nat.le_refl _) new
      refine ⟨.ref s.heap.objs.size, _, I1, rfl, ⟨_, x, rfl, I.hok.fresh (Nat.le_refl _), rfl, fun ys hy => by rw [I.tuple_inj hy hq]; exact hx⟩, ⟨⟨u, ?_⟩, hst'.1.at fun o q => (sb.2 it (Ne.symm hne)).trans q, hne⟩, fun b hb => ?_⟩
      · have e1 : ((i + 1 : Nat) : Int) = (i : Int) + 1 := by omega
        rw [e1]; exact he'
      · have hb' : b < s.heap.objs.size := by
          rcases (show b = e ∨ b = it by simpa using hb) with z | z
          · rw [z]; exact hel
          · rw [z]; exact hil
        rw [upd_ne (Nat.ne_of_lt hb')]
        exact (hf b hb).1
  done := by
    intro X hP hw hK hc i pins s σ H E I hf st hg
    subst hP hw hK
    obtain ⟨⟨old, he⟩, hit, hne⟩ := st
    obtain ⟨xs, hq, hx⟩ := hg
    obtain ⟨its, rv, p, hz⟩ := I.tuple hq
    obtain ⟨f0, f1, f2, f3, f4, f5⟩ := hf it (by simp)
    have hl := rv.length
    have ht : s.heap.IsTuple a its.toArray := p
    have hh : X.A.in1.handled = none := I.ok.hd hc
    obtain rfl : its.toArray.size = i := by rw [List.size_toArray]; omega
    exact wpAny_pyNext_enum_endD (Draws.tuple hh it a hai its.toArray) he ⟨hit, ht⟩ fun h' eb => ⟨rfl, I.turned (t' := s.toks) (fun b o hb q => eb b o hb q) f0 f1 f3 f4 f5⟩
  self := fun A i s Q E st h => let ⟨⟨_, he⟩, _⟩ := st; wpAny_pyIter_enum he h
theorem meets_enumerate_newT (l : Addr) (items : Array Value) :
    Meets (Builtin.«enumerate.__new__» ⟨[.type "enumerate", .ref l], []⟩) (fun _ R s => s.heap.IsTuple l items ∧
      R (.ok (.ret (.ref (s.heap.push { cls := .type "tuple_iterator", data := .fields #[.ref l, .int 0 0] }).objs.size)))
        { s with heap := (s.heap.push { cls := .type "tuple_iterator", data := .fields #[.ref l, .int 0 0] }).push { cls := .type "enumerate", data := .fields #[.none, .bool false, .ref s.heap.objs.size, rawInt 0, .none, .none] } }) :=
  .of_wp fun prog w A R s h => by
    obtain ⟨hp, g, d, tk, os⟩ := s
    obtain ⟨h1, h⟩ := h
    have hsub := sub_enumerate
    have q1 : ∀ {A' : Around} {E : Value → Shared → Prop} {Q : Value → Shared → Prop}, Q (.ref hp.objs.size) ⟨hp.push { cls := .type "tuple_iterator", data := .fields #[.ref l, .int 0 0] }, g, d, tk, os⟩ → wpAny (model prog w) A' (pyIter (.ref l)) Q E ⟨hp, g, d, tk, os⟩ :=
      fun q => (begins_tuple l items).iter prog w _ _ ⟨hp, g, d, tk, os⟩ _ h1 q
    wp_walk using q1
    refine wpAny_stack_any fun st => wpAny_pure ?_
    split
    · rename_i c _ _ _ _ _
      cases (c == Value.type "enumerate")
      · wp_walk using q1
        exact ⟨_, rfl, h⟩
      · wp_walk using q1
        exact ⟨_, rfl, h⟩
    · wp_walk using q1
      exact ⟨_, rfl, h⟩
theorem call_enumT {prog : Program} {w : World} {A : Around} {E : Value → Shared → Prop} {s : Shared} {l : Addr} {items : Array Value} {Q : Value → Shared → Prop} (hL : s.heap.IsTuple l items)
    (h : ∀ h', IsEnum h' (s.heap.objs.size + 1) s.heap.objs.size 0 .none → h'.IsTupleIter s.heap.objs.size l 0 → (∀ b o, s.heap.get? b = some o → h'.get? b = some o) → Q (.ref (s.heap.objs.size + 1)) { s with heap := h' }) :
    wpAny (model prog w) A (call (.type "enumerate") [.ref l]) Q E s := by
  refine callType_new PySem.F.called_enumerate (by decide) (PySem.F.typeCall_enumerate_1 _) (PySem.F.newCall_enumerate_1 _) (fun obj => PySem.F.args_object_init_2 obj _) PySem.F.entry_enumerate_new (meets_enumerate_newT l items) ⟨hL, ?_⟩
  have hz : (s.heap.push { cls := .type "tuple_iterator", data := .fields #[.ref l, .int 0 0] }).objs.size = s.heap.objs.size + 1 := Heap.size_push ..
  show _ ∧ _
  rw [hz]
  have he : IsEnum ((s.heap.push { cls := .type "tuple_iterator", data := .fields #[.ref l, .int 0 0] }).push
      { cls := .type "enumerate", data := .fields #[.none, .bool false, .ref s.heap.objs.size, rawInt 0, .none, .none] }) (s.heap.objs.size + 1) s.heap.objs.size 0 .none := by
    have := Heap.get?_push_size (s.heap.push { cls := .type "tuple_iterator", data := .fields #[.ref l, .int 0 0] })
      (o := { cls := .type "enumerate", data := .fields #[.none, .bool false, .ref s.heap.objs.size, rawInt 0, .none, .none] }) rfl
    rw [hz] at this; exact this
  exact ⟨⟨_, he, rfl⟩, h _ he ⟨_, Heap.get?_push_of_some _ (Heap.get?_push_size _ rfl), rfl, rfl⟩ fun b o x => Heap.get?_push_of_some _ (Heap.get?_push_of_some _ x)⟩
def iEnumA (K : PySem.W.Frag) (ta : TA) : TI := fun σ H R => ta σ H fun vs H1 => ∃ a, vs = [.ref a] ∧ ((∃ xs, SqL K H1 a xs ∧ R (Ite K a) H1) ∨ ∃ xs, SqT K H1 a xs ∧ R (Itet K a) H1)
theorem pi_enumA {e : Expr} {ta : TA} {tpos : Pos} {elts : List Expr} {kk : Nat} (hg : Gl X "enumerate") (hm : X.mg "enumerate" = none) (ha : PA X [e] ta) (hs : starEach [e] X.env = [(false, eval e X.env)] := by rfl) :
    PI X (.Tuple elts kk tpos) (.Call (.Name "enumerate" p) [e] [] pos) (iEnumA X.K ta) := by
  refine ⟨fun pins s σ H R I h => ?_⟩
  refine Call_ (ld_blt I hg hm PyProof.Rows.boot_enumerate (PyProof.Rows.callWith_type1 (thn (ha.run pos pins s σ H _ I h) fun us s1 ⟨vs, H1, I1, r1, ad, ex, q⟩ => ?_) hs rfl))
  subst ex
  have e0 := Vals.ref1 r1
  subst e0
  have fresh : ∀ b ∈ [s1.heap.objs.size + 1, s1.heap.objs.size], FpOk X pins H1 b := fun b hb => by
    have hle : s1.heap.objs.size ≤ b := by
      rcases (show b = s1.heap.objs.size + 1 ∨ b = s1.heap.objs.size by simpa using hb) with z | z <;> omega
    exact I1.fpOk hle (I1.hok.fresh hle)
  rcases q with ⟨xs, hq, q⟩ | ⟨xs, hq, q⟩
  · obtain ⟨its, rv, p', hz⟩ := I1.list hq
    exact call_enumerate_list p'.isList fun h' he hit hsz hk => wpAny_pyIter_enum he ⟨_, [s1.heap.objs.size + 1, s1.heap.objs.size], _, _, H1, rfl, I1.kept (t' := s1.toks) hk, turn_enum ad (s1.heap.objs.size + 1) s1.heap.objs.size, ⟨⟨.none, he⟩, hit, Nat.succ_ne_self _⟩, fresh, q⟩
  · obtain ⟨its, rv, p', hz⟩ := I1.tuple hq
    have ht : s1.heap.IsTuple ad its.toArray := p'
    have hlt : ad < s1.heap.objs.size := by obtain ⟨o, e, _⟩ := ht; exact Heap.lt_size e
    exact call_enumT ht fun h' he hit hk => wpAny_pyIter_enum he ⟨_, [s1.heap.objs.size + 1, s1.heap.objs.size], _, _, H1, rfl, I1.kept (t' := s1.toks) hk, turn_enumT ad (s1.heap.objs.size + 1) s1.heap.objs.size (Nat.ne_of_lt hlt), ⟨⟨.none, he⟩, hit, Nat.succ_ne_self _⟩, fresh, q⟩
/-- (0, x0), (1, x1), .. -/
def enD (i : Nat) : List D → List D
  | [] => []
  | d :: l => .tup [.int i, d] :: enD (i + 1) l
theorem enD_len : ∀ (l : List D) (i : Nat), (enD i l).length = l.length
  | [], _ => rfl
  | d :: l, i => by simp [enD, enD_len l]
theorem enD_get : ∀ (l : List D) (i j : Nat) (d : D), (enD i l)[j]? = some d → ∃ x, l[j]? = some x ∧ d = .tup [.int ((i + j : Nat) : Int), x]
  | [], _, _, _, h => by simp [enD] at h
  | x :: l, i, 0, d, h => by
    simp only [enD, List.getElem?_cons_zero, Option.some.injEq] at h
    exact ⟨x, rfl, h.symm⟩
  | x :: l, i, j + 1, d, h => by
    obtain ⟨y, h1, h2⟩ := enD_get l (i + 1) j d (by simpa [enD] using h)
    exact ⟨y, by simpa using h1, by rw [h2, show i + 1 + j = i + (j + 1) by omega]⟩
@[simp] def iEn (g : AF) : IF := fun δ μ => (g δ μ).bind fun l μ => match l with
  | [x] => match seqOf μ x with
    | some l => .ok (fun μ => sameL μ x l, enD 0 l) μ
    | none => .no
  | _ => .no
theorem wk_enum {x : D} {ad : Addr} {l : List D} (hx : ∀ l', x ≠ .tup l') : WkOk G (Ite G.K ad) (fun μ => sameL μ x l) (enD 0 l) (fun H ι => DV G H ι x (.ref ad)) := fun σ H δ μ ι rs b hc => by
  obtain ⟨a', vs, e, dl, ⟨_, l', z⟩ | ⟨sq, _⟩⟩ := seq_two rs b (same_eq hc)
  · exact (hx l' z).elim
  · cases e
    refine ⟨⟨vs, sq, Nat.le_of_eq (by rw [enD_len]; exact dl.length.symm)⟩, fun i d hi => ?_⟩
    obtain ⟨y, hy, rfl⟩ := enD_get _ _ _ _ hi
    obtain ⟨v, hv, dv⟩ := dl.get hy
    refine ⟨⟨vs, v, sq, hv⟩, fun w H' y => ?_⟩
    obtain ⟨T, z, rfl, hT, rfl, y⟩ := y
    have := y vs sq
    rw [hv] at this; cases this
    have xx : Ext H (upd H T (.tup [.int (i : Nat), v])) := Ext.upd_free hT
    refine ⟨xx, rs.same (Same.upd_free hT), T, _, rfl, SqT.of upd_same, .cons ?_ (.cons (DV.mono xx (List.prefix_refl _) _ _ dv) rfl)⟩
    rw [Nat.zero_add]
    rfl
theorem wk_enumT {ad : Addr} {l l0 : List D} : WkOk G (Itet G.K ad) (fun μ => sameL μ (.tup l0) l) (enD 0 l) (fun H ι => DV G H ι (.tup l0) (.ref ad)) := fun σ H δ μ ι rs b hc => by
  obtain ⟨a', vs, e, dl, ⟨sq, _⟩ | ⟨_, _, z⟩⟩ := seq_two rs b (same_eq hc)
  · cases e
    refine ⟨⟨vs, sq, by rw [enD_len]; exact dl.length.symm⟩, fun i d hi => ?_⟩
    obtain ⟨y, hy, rfl⟩ := enD_get _ _ _ _ hi
    obtain ⟨v, hv, dv⟩ := dl.get hy
    refine ⟨⟨vs, v, sq, hv⟩, fun w H' y => ?_⟩
    obtain ⟨T, z, rfl, hT, rfl, y⟩ := y
    have := y vs sq
    rw [hv] at this; cases this
    have xx : Ext H (upd H T (.tup [.int (i : Nat), v])) := Ext.upd_free hT
    refine ⟨xx, rs.same (Same.upd_free hT), T, _, rfl, SqT.of upd_same, .cons ?_ (.cons (DV.mono xx (List.prefix_refl _) _ _ dv) rfl)⟩
    rw [Nat.zero_add]
    rfl
  · exact (z _ rfl).elim
theorem di_enum {tpos : Pos} {elts : List Expr} {kk : Nat} (h : DA k X G W [a] fs) (hm : G.mg "enumerate" = none) (hg : Gl X "enumerate" := by rfl) (hs : starEach [a] X.env = [(false, eval a X.env)] := by rfl) : DI k X G W (.Tuple elts kk tpos) (.Call (.Name "enumerate" p) [a] [] pos) (iEn fs) := fun cc =>
  piI (pi_enumA hg (by rw [cc.hm]; exact hm) (h cc) hs) fun σ H R ⟨δ, μ, ι, rs, q⟩ => ⟨δ, μ, ι, rs, RR.bnd q fun l μ1 vs H1 ι1 x1 p1 rs1 dl q => by
    split at q
    · rename_i x
      obtain ⟨v, rfl, dx⟩ := dvs1 dl
      cases e : seqOf μ1 x with
      | none => rw [e] at q; exact q.elim
      | some l =>
        rw [e] at q
        obtain ⟨ad, ys, rfl, dl, ⟨sq, l', rfl⟩ | ⟨sq, _, nt⟩⟩ := seq_two rs1 dx e
        · exact ⟨ad, rfl, .inr ⟨ys, by rw [cc.hK]; exact sq, by rw [cc.hK]; exact q.now rs1 ⟨_, dx, fun _ _ _ _ x p b => DV.mono x p _ _ b, wk_enumT⟩⟩⟩
        · exact ⟨ad, rfl, .inl ⟨ys, by rw [cc.hK]; exact sq, by rw [cc.hK]; exact q.now rs1 ⟨_, dx, fun _ _ _ _ x p b => DV.mono x p _ _ b, wk_enum nt⟩⟩⟩
    · exact q.elim⟩
end
end SZ
end
section
/-! SZ, part Q: words for printed derivations. -/
namespace SZ
open PySem PySem.Spec PyProof.Rows L2
/-- a constant of the module, as data -/
structure GC (G : Glo) (x : Str) (d : D) : Prop where
  ex : ∃ u v, G.mg x = some u ∧ RelV v u ∧ ∀ H ι, DV G H ι d v
/-- a def of the module as it stands behind the top -/
structure FT (G : Glo) (x qual : Str) (st : Stmt) (f : Addr) : Prop where
  fn : ∃ fd, Fun G.K x qual st f fd
section
variable {k : Nat} {X : Cx} {G : Glo} {W : WX} {a b c : Expr} {fa fb fc fe : EF} {ta tb ft : TF} {pos p : Pos} {es : List Expr} {fs : AF}
theorem de_gc {x : Str} {d : D} (h : GC G x d) (hg : Gl X x := by rfl) (hb : (x == ("__debug__" : Str)) = false := by decide) : DE k X G W (.Name x pos) (eC d) := by
  obtain ⟨u, v, hm, r, hd⟩ := h.ex
  exact de_glob hm r hd hg hb
/-- -n -/
theorem de_neg {i : Int} {j p2} : DE k X G W (.UnaryOp .USub (.Constant (.int i) j p2) pos) (eC (.int (-i))) := fun _ =>
  peI (pe_un un_neg pe_int) fun σ H Q ⟨δ, μ, ι, rs, q⟩ => ⟨i, rfl, q.now rs rfl⟩
/-- what a comprehension's block must be -/
def blkB (N : List Str) (sc scope : Scope) (own : List (Str × Nat)) : Bool :=
  scope.kind == .function && scope.names.all (fun y => scope.names.lookup y.1 == some y.2) && own.all (fun p => N[p.2]? == some p.1) &&
    scope.names.all (fun y => y.2 != .free || (sc.names.lookup y.1 == some .cell || sc.names.lookup y.1 == some .free)) &&
    scope.names.all (fun y => !(y.2 == .local || y.2 == .cell) || (own.any (fun p => p.1 == y.1) || !(N.any fun n => n == y.1)))
theorem blk_mk {N : List Str} {sc scope : Scope} {own : List (Str × Nat)} (h : blkB N sc scope own = true) : BlkOk N sc scope own := by
  simp only [blkB, Bool.and_eq_true, List.all_eq_true, beq_iff_eq, Bool.or_eq_true, bne_iff_ne, Bool.not_eq_true', List.any_eq_true] at h
  obtain ⟨⟨⟨⟨h1, h2⟩, h3⟩, h4⟩, h5⟩ := h
  refine ⟨h1, h2, h3, fun y hy e => ?_, fun y hy e => ?_⟩
  · rcases h4 y hy with z | z
    · exact absurd e z
    · exact z
  · rcases h5 y hy with z | z
    · rcases e with e | e <;> rw [e] at z <;> simp at z
    · rcases z with ⟨p, hp, hpe⟩ | z
      · exact .inl (List.mem_map.mpr ⟨p, hp, hpe⟩)
      · refine .inr fun hm => ?_
        have : (N.any fun n => n == y.1) = true := List.any_eq_true.mpr ⟨y.1, hm, by simp⟩
        rw [this] at z; cases z
end
end SZ
end
section
/-! SZ, part P: instances: attributes, methods, properties, making. -/
namespace SZ
open PySem PySem.Spec PyProof.Rows L2
/-- the place of a field -/
def fix (f : Str) : List Str → Option Nat
  | [] => none
  | g :: r => if g = f then some 0 else (fix f r).map (· + 1)
theorem fix_look {f : Str} : ∀ {fs : List (Str × V)} {i : Nat}, fix f (fs.map (·.1)) = some i → ∃ v, fs.lookup f = some v ∧ (fs.map (·.2))[i]? = some v
  | [], _, h => by cases h
  | (g, x) :: r, i, h => by
    simp only [List.map_cons, fix] at h
    by_cases e : g = f
    · rw [if_pos e] at h
      cases h
      subst e
      exact ⟨x, by simp [List.lookup_cons], rfl⟩
    · rw [if_neg e] at h
      obtain ⟨j, h1, rfl⟩ := Option.map_eq_some_iff.mp h
      obtain ⟨v, h2, h3⟩ := fix_look h1
      refine ⟨v, ?_, by simpa using h3⟩
      rw [List.lookup_cons]
      have : (f == g) = false := by simpa using fun z => e z.symm
      rw [this]
      exact h2
theorem fix_none {f : Str} : ∀ {fs : List (Str × V)}, fix f (fs.map (·.1)) = none → fs.lookup f = none
  | [], _ => rfl
  | (g, x) :: r, h => by
    simp only [List.map_cons, fix] at h
    by_cases e : g = f
    · rw [if_pos e] at h; cases h
    · rw [if_neg e] at h
      have h1 : fix f (r.map (·.1)) = none := by simpa using h
      rw [List.lookup_cons]
      have : (f == g) = false := by simpa using fun z => e z.symm
      rw [this]
      exact fix_none h1
theorem fix_take {f : Str} : ∀ {ns : List Str} {i m : Nat}, fix f ns = some i → i < m → fix f (ns.take m) = some i
  | [], _, _, h, _ => by cases h
  | g :: r, i, 0, _, h => absurd h (Nat.not_lt_zero _)
  | g :: r, i, m + 1, h, hm => by
    simp only [fix] at h
    simp only [List.take_succ_cons, fix]
    by_cases e : g = f
    · rw [if_pos e] at h ⊢; exact h
    · rw [if_neg e] at h ⊢
      obtain ⟨j, h1, rfl⟩ := Option.map_eq_some_iff.mp h
      rw [fix_take h1 (by omega)]
      rfl
theorem fix_mem {f : Str} : ∀ {ns : List Str} {i : Nat}, fix f ns = some i → f ∈ ns ∧ i < ns.length ∧ ns[i]? = some f
  | [], _, h => by cases h
  | g :: r, i, h => by
    simp only [fix] at h
    by_cases e : g = f
    · rw [if_pos e] at h
      cases h
      subst e
      simp
    · rw [if_neg e] at h
      obtain ⟨j, h1, rfl⟩ := Option.map_eq_some_iff.mp h
      obtain ⟨a, b, c⟩ := fix_mem h1
      exact ⟨List.mem_cons_of_mem _ a, by simp; omega, by simpa using c⟩
/-- the ordinary classes: their fields, by number -/
abbrev CT := Nat → List Str
structure CTok (G : Glo) (ct : CT) : Prop where
  fld : ∀ c C ns, G.cl c = some (C, ns) → ct c ≠ [] → ns = ct c ∧ Cls G.K C ∧ ∀ f ∈ ct c, NoAttr G.K C f
section
variable {X : Cx} {pins : List (Addr × Obj)} {σ : L2.St} {H : Hp} {s : Shared} {ad C dx : Addr} {fs : List (Str × V)} {f : Str} {v : V} {A : Around} {E : Value → Shared → Prop}
theorem ins_getR (I : Inv X pins σ H s) (e : Rd H ad (.ins C dx fs)) : ∃ mA, ObjM s.heap ad dx C mA ∧ ∀ f, RelO (fs.lookup f) (mA f) := by
  obtain ⟨d, z, ne, ob, mA, n, r, q⟩ := e.ok I.hok
  exact ⟨mA, ⟨ob, n, ne⟩, r⟩
theorem getattrR {b : Bool} {Q : Value → Shared → Prop} (I : Inv X pins σ H s) (e : Rd H ad (.ins C dx fs)) (c : Cls X.K C) (n : NoAttr X.K C f) (l : fs.lookup f = some v)
    (h : ∀ u s', Inv X pins σ H s' → RelV v u → Q u s') : wpAny (model X.prog X.w) A (getAttr (.ref ad) f b) Q E s := by
  obtain ⟨mA, O, r⟩ := ins_getR I e
  obtain ⟨u, hu, ru⟩ := RelO.some_of (v := v) (o := mA f) (by rw [← l]; exact r f)
  exact get_map I.kIn O (c.get f) c.hd n hu (handed_of ru) (h u _ (I.tok _) ru)
theorem getmethR {m : Str} {g : Addr} {pl : Sem Bool} {Q : Value × List Value → Shared → Prop} (I : Inv X pins σ H s) (e : Rd H ad (.ins C dx fs)) (c : Cls X.K C) (k : Meth X.K C m g) (l : fs.lookup m = none)
    (h : Q (.ref g, [.ref ad]) s) : wpAny (model X.prog X.w) A (getMethod (.ref ad) m pl) Q E s := by
  obtain ⟨mA, O, r⟩ := ins_getR I e
  exact get_meth I.kIn O (c.get m) k.at_ k.fn (RelO.none_of (by rw [← l]; exact r m)) h
theorem getfldR {m : Str} {pl : Sem Bool} {Q : Value × List Value → Shared → Prop} (I : Inv X pins σ H s) (e : Rd H ad (.ins C dx fs)) (c : Cls X.K C) (n : NoAttr X.K C m) (l : fs.lookup m = some v)
    (h : ∀ u s', Inv X pins σ H s' → RelV v u → Q (u, []) s') : wpAny (model X.prog X.w) A (getMethod (.ref ad) m pl) Q E s := by
  obtain ⟨mA, O, _⟩ := ins_getR I e
  obtain ⟨od, J, _⟩ := O.look
  exact PySem.W.method_usual (r := none) I.kIn J (PySem.W.plainGet_of (c.get m)).1 (PySem.W.plainGet_of (c.get m)).2 n rfl (getattrR I e c n l fun u s' I' r => h u s' I' r)
end
/-- an object's class and fields, as they stand -/
@[simp] def insOf (μ : MH) : D → Option (Nat × List D)
  | .obj c vs => some (c, vs)
  | .ref n => match μ[n]? with
    | some (some (.ins c vs)) => some (c, vs)
    | _ => none
  | _ => none
section
variable {k : Nat} {X : Cx} {G : Glo} {W : WX} {a b c o : Expr} {fa fb fc fe fo : EF} {ta tb ft : TF} {pos p apos : Pos} {es : List Expr} {fs : AF} {ct : CT}
theorem ins_view {σ : L2.St} {H : Hp} {δ : Sl} {μ : MH} {ι : List Addr} {d : D} {v : V} {c : Nat} {vs : List D} (rs : RS G σ H δ μ ι) (dx : DV G H ι d v) (h : insOf μ d = some (c, vs)) :
    ∃ ad C dx fs ns, v = .ref ad ∧ Rd H ad (.ins C dx fs) ∧ G.cl c = some (C, ns) ∧ fs.map (·.1) = ns.take vs.length ∧ DVs G H ι vs (fs.map (·.2)) := by
  cases d with
  | obj c' vs' =>
    cases h
    obtain ⟨ad, o, C, dx, fs, ns, e, s, q1, q2, r⟩ := dx
    refine ⟨ad, C, dx, fs, ns, e, .inr ⟨o, s⟩, q1, ?_, r⟩
    rw [← q2, r.length, List.length_map]
    exact (List.take_of_length_le (by rw [List.length_map]; exact Nat.le_refl _)).symm
  | ref n =>
    obtain ⟨ad, ea, rfl⟩ := dx
    simp only [insOf] at h
    cases e : (μ[n]? : Option (Option MO)) with
    | none => simp [e] at h
    | some om =>
      cases om with
      | none => simp [e] at h
      | some m =>
        cases m with
        | ins c' vs' =>
          simp only [e, Option.some.injEq, Prod.mk.injEq] at h
          obtain ⟨rfl, rfl⟩ := h
          obtain ⟨C, dx, fs, ns, e1, e2, e3, e4⟩ := rs.hs.there e ea
          exact ⟨ad, C, dx, fs, ns, rfl, .inl e1, e2, e3, e4⟩
        | _ => simp [e] at h
  | _ => simp [insOf] at h
/-- e.f -/
@[simp] def fldD (ct : CT) (f : Str) (d : D) (μ : MH) : R D := match insOf μ d with
  | some (c, vs) => match fix f (ct c) with
    | some i => match vs[i]? with
      | some x => .ok x μ
      | none => .no
    | none => .no
  | none => .no
@[simp] def eFld (ct : CT) (f : Str) (fa : EF) : EF := fun δ μ => (fa δ μ).bind fun d μ => fldD ct f d μ
theorem fld_view {σ : L2.St} {H : Hp} {δ : Sl} {μ : MH} {ι : List Addr} {f : Str} {d : D} {v : V} {rel : Hp → List Addr → D → V → Prop} {Q : VK} (T : CTok G ct) (rs : RS G σ H δ μ ι) (dx : DV G H ι d v) (q : RR G W σ δ (DV G) H ι (fldD ct f d μ) Q) :
    ∃ ad C dx fs x y, v = .ref ad ∧ Rd H ad (.ins C dx fs) ∧ Cls G.K C ∧ NoAttr G.K C f ∧ fs.lookup f = some y ∧ DV G H ι x y ∧ fldD ct f d μ = .ok x μ := by
  unfold fldD at q ⊢
  cases h1 : insOf μ d with
  | none => rw [h1] at q; exact q.elim
  | some cv =>
    obtain ⟨c, vs⟩ := cv
    rw [h1] at q
    simp only at q ⊢
    cases h2 : fix f (ct c) with
    | none => rw [h2] at q; exact q.elim
    | some i =>
      rw [h2] at q
      simp only at q ⊢
      cases h3 : vs[i]? with
      | none => rw [h3] at q; exact q.elim
      | some x =>
        obtain ⟨ad, C, dx, fs, ns, e, rd, hcl, hn, dl⟩ := ins_view rs dx h1
        obtain ⟨m1, m2, m3⟩ := fix_mem h2
        obtain ⟨rfl, cl, na⟩ := T.fld c C ns hcl (fun z => by rw [z] at m1; cases m1)
        have hi : i < vs.length := (List.getElem?_eq_some_iff.mp h3).1
        have := fix_take h2 hi
        rw [← hn] at this
        obtain ⟨y, l1, l2⟩ := fix_look this
        obtain ⟨y', g1, g2⟩ := dl.get h3
        rw [l2] at g1; cases g1
        exact ⟨ad, C, dx, fs, x, y, e, rd, cl, na f m1, l1, g2, rfl⟩
theorem de_fld {f : Str} (T : CTok G ct) (ha : DE k X G W a fa) (hb : attributeBase a f X.env (eval a X.env) = eval a X.env := by rfl) : DE k X G W (.Attribute a f pos) (eFld ct f fa) := fun cc => by
  refine ⟨fun pins s σ H Q I ⟨δ, μ, ι, rs, q⟩ => ?_⟩
  have q' : rE G W fa σ H fun v H1 => ∃ δ μ ι d, RS G σ H1 δ μ ι ∧ DV G H1 ι d v ∧ RR G W σ δ (DV G) H1 ι (fldD ct f d μ) Q := ⟨δ, μ, ι, rs, RR.bnd q fun d μ1 v H1 ι1 x1 p1 rs1 dx q => ⟨δ, μ1, ι1, d, rs1, dx, q⟩⟩
  refine attr_of hb (thn ((ha cc).run pins s σ H _ I q') fun u s1 ⟨v, H1, I1, rv, δ, μ, ι, d, rs, dx, q⟩ => ?_)
  obtain ⟨ad, C, dd, fs, x, y, rfl, rd, cl, na, l, dy, e⟩ := fld_view (rel := DV G) T rs dx q
  cases rv
  rw [e] at q
  exact getattrR I1 rd (by rw [cc.hK]; exact cl) (by rw [cc.hK]; exact na) l fun u s' I' ru => ⟨y, H1, I', ru, q.now rs dy⟩
/-- o.f = value, o an instance in the making or one that may change -/
@[simp] def stD (ct : CT) (f : Str) (d x : D) (μ : MH) : Option MH := match d with
  | .ref n => match μ[n]? with
    | some (some (.ins c vs)) => match fix f (ct c) with
      | some i => if i < vs.length then some (μ.set n (some (.ins c (vs.set i x)))) else if i = vs.length then some (μ.set n (some (.ins c (vs ++ [x])))) else none
      | none => none
    | _ => none
  | _ => none
@[simp] def sFst (ct : CT) (f : Str) (fv fo : EF) : SF := fun δ μ => (fv δ μ).to δ fun v μ => (fo δ μ).to δ fun o μ => match stD ct f o v μ with
  | some μ => .nx δ μ
  | none => .no
theorem putF_set {f : Str} {y : V} : ∀ {fs : List (Str × V)} {i : Nat}, fix f (fs.map (·.1)) = some i → (putF f y fs).map (·.1) = fs.map (·.1) ∧ (putF f y fs).map (·.2) = (fs.map (·.2)).set i y
  | [], _, h => by cases h
  | (g, x) :: r, i, h => by
    simp only [List.map_cons, fix] at h
    unfold putF
    by_cases e : g = f
    · rw [if_pos e] at h ⊢
      cases h
      simp
    · rw [if_neg e] at h ⊢
      obtain ⟨j, h1, rfl⟩ := Option.map_eq_some_iff.mp h
      obtain ⟨a, b⟩ := putF_set (y := y) h1
      simp [a, b]
theorem putF_app {f : Str} {y : V} : ∀ {fs : List (Str × V)}, fix f (fs.map (·.1)) = none → putF f y fs = fs ++ [(f, y)]
  | [], _ => rfl
  | (g, x) :: r, h => by
    simp only [List.map_cons, fix] at h
    unfold putF
    by_cases e : g = f
    · rw [if_pos e] at h; cases h
    · rw [if_neg e] at h ⊢
      rw [putF_app (by simpa using h)]
      rfl
theorem fix_take_none {f : Str} : ∀ {ns : List Str} {i : Nat}, fix f ns = some i → fix f (ns.take i) = none
  | [], _, h => by cases h
  | g :: r, i, h => by
    simp only [fix] at h
    by_cases e : g = f
    · rw [if_pos e] at h; cases h; rfl
    · rw [if_neg e] at h
      obtain ⟨j, h1, rfl⟩ := Option.map_eq_some_iff.mp h
      simp only [List.take_succ_cons, fix, if_neg e]
      rw [fix_take_none h1]
      rfl
theorem ds_fst {f : Str} {fv fo : EF} {pos' : Pos} (T : CTok G ct) (hs1 : ∀ c, (ct c).length < 1000) (hv : DE k X G W a fv) (ho : DE k X G W o fo) (hs : swapsWith a (some (.Attribute o f pos')) pos.line X.env = pure false := by rfl) :
    DS k X G W (.Assign [.Attribute o f pos'] a pos) (sFst ct f fv fo) := fun cc => by
  refine ⟨fun pins s σ H DD I h => ?_⟩
  have h' : rE G W fv σ H fun v H1 => rE G W fo σ H1 fun o H2 => ∃ δ μ μ' ι dv d_o, RS G σ H2 δ μ ι ∧ DV G H2 ι dv v ∧ DV G H2 ι d_o o ∧ stD ct f d_o dv μ = some μ' ∧ SRR G W DD H2 ι (.nx δ μ') := by
    obtain ⟨δ, μ, ι, rs, q⟩ := h
    refine ⟨δ, μ, ι, rs, RR.to q fun dv μ1 x H1 ι1 x1 p1 rs1 dx q => ⟨δ, μ1, ι1, rs1, RR.to q fun d_o μ2 y H2 ι2 x2 p2 rs2 dy q => ?_⟩⟩
    cases e : stD ct f d_o dv μ2 with
    | none => simp only [e] at q; exact q.elim
    | some μ' =>
      simp only [e] at q
      exact ⟨δ, μ2, μ', ι2, dv, d_o, rs2, DV.mono x2 p2 _ _ dx, dy, e, q⟩
  refine plainObj_wpAny_Assign_Attribute (thn ((hv cc).run pins s σ H _ I h') fun u s1 ⟨y, H1, I1, ry, q⟩ => thn ((ho cc).run pins s1 σ H1 _ I1 q) fun ov s2 ⟨x, H2, I2, rx, δ, μ, μ', ι, dv, d_o, rs, e1, e2, e3, q2⟩ => ?_) hs
  unfold stD at e3
  split at e3
  · rename_i n
    obtain ⟨ad, ea, rfl⟩ := e2
    cases rx
    split at e3
    · rename_i c vs em
      split at e3
      · rename_i i hi
        obtain ⟨C, dd, fs, ns, g1, g2, g3, g4⟩ := rs.hs.there em ea
        obtain ⟨m1, m2, m3⟩ := fix_mem hi
        obtain ⟨rfl, cl, na⟩ := T.fld c C ns g2 (fun z => by rw [z] at m1; cases m1)
        have hl : fs.length ≤ (ct c).length := by
          have := congrArg List.length g3
          rw [List.length_map, List.length_take] at this
          omega
        have fin : ∀ (vs' : List D), (putF f y fs).map (·.1) = (ct c).take vs'.length → DVs G H2 ι vs' ((putF f y fs).map (·.2)) → SRR G W DD H2 ι (.nx δ (μ.set n (some (.ins c vs')))) → wpAny (model X.prog X.w) X.A (setAttr (.ref ad) f u) (fun _ s' => SP X pins DD .next s') X.xe s2 := fun vs' k1 k2 k3 => by
          have xx : Ext H2 (upd H2 ad (.ins C dd (putF f y fs))) := Ext.upd_chg g1 trivial
          obtain ⟨x1, rs1⟩ := RS.wr (m' := .ins c vs') (o := .ins C dd (putF f y fs)) rs em ea ⟨C, dd, _, _, upd_same, g2, k1, DVs.mono xx (List.prefix_refl _) _ _ k2⟩
          exact setattr_ok I2 g1 (by rw [cc.hK]; exact cl) (by rw [cc.hK]; exact na f m1) (by have := hs1 c; omega) ry fun s3 I3 => ⟨σ, _, I3, k3 σ _ ι x1 (List.prefix_refl _) rs1⟩
        split at e3
        · rename_i hlt
          cases e3
          have hf := fix_take hi hlt
          rw [← g3] at hf
          obtain ⟨p1, p2⟩ := putF_set (y := y) hf
          exact fin _ (by rw [p1, List.length_set]; exact g3) (by rw [p2]; exact g4.set i e1) q2
        · split at e3
          · rename_i he
            cases e3
            have hf := fix_take_none hi
            rw [he, ← g3] at hf
            have p1 := putF_app (y := y) hf
            refine fin _ ?_ (by rw [p1, List.map_append]; exact g4.append (.cons e1 rfl)) q2
            rw [p1, List.map_append, g3, List.length_append, List.length_singleton]
            have : (ct c)[vs.length]? = some f := by rw [← he]; exact m3
            rw [List.take_add_one, this]
            rfl
          · cases e3
      · cases e3
    · cases e3
  · cases e3
end
end SZ
end
section
/-! SZ, part R: methods, properties, making of instances, defs in fields. -/
namespace SZ
open PySem PySem.Spec PyProof.Rows L2
/-- a method of the class c -/
structure MtOk (G : Glo) (base : Heap) (k : Nat) (c : Nat) (m : Str) (n : Nat) (F : FF) : Prop where
  ex : ∃ C f ns, G.cl c = some (C, ns) ∧ Cls G.K C ∧ Meth G.K C m f ∧ fix m ns = none ∧ FnD G base k f n F
theorem MtOk.mono {G : Glo} {base : Heap} {j k : Nat} {c : Nat} {m : Str} {n : Nat} {F : FF} (h : MtOk G base j c m n F) (hj : j ≤ k) : MtOk G base k c m n F := by
  obtain ⟨C, f, ns, h1, h2, h3, h4, h5⟩ := h.ex
  exact ⟨C, f, ns, h1, h2, h3, h4, h5.mono hj⟩
section
variable {k : Nat} {X : Cx} {G : Glo} {W : WX} {a b c o : Expr} {fa fb fc fe fo : EF} {ta tb ft : TF} {pos p apos : Pos} {es : List Expr} {fs : AF} {ct : CT}
theorem fix_none_take {f : Str} : ∀ {ns : List Str} {m : Nat}, fix f ns = none → fix f (ns.take m) = none
  | [], _, _ => by simp [fix]
  | g :: r, 0, _ => rfl
  | g :: r, m + 1, h => by
    simp only [fix] at h
    simp only [List.take_succ_cons, fix]
    by_cases e : g = f
    · rw [if_pos e] at h; cases h
    · rw [if_neg e] at h ⊢
      rw [fix_none_take (by simpa using h)]
      rfl
@[simp] def eMeth (c : Nat) (F : FF) (fo : EF) (g : AF) : EF := fun δ μ => (fo δ μ).bind fun d μ => match insOf μ d with
  | some (c', _) => if c' = c then (g δ μ).bind fun l μ => F (d :: l) μ else .no
  | none => .no
theorem de_meth {m : Str} {n c : Nat} {F : FF} {pl : Sem Bool} (T : MtOk G X.base k c m n F) (ho : DE k X G W o fo) (ha : DA k X G W (a :: es) fs)
    (hst : starEach (a :: es) X.env = (false, eval a X.env) :: starEach es X.env := by rfl) (hpl : (backTo pos (starEach es X.env)).any (·.1) = false := by rfl)
    (ht : eval (.Call (.Attribute o m apos) (a :: es) [] pos) X.env = (do
      let ov ← eval o X.env
      standAt apos.atName
      let (f, first) ← holding [ov] (getMethod ov m pl)
      callWith pos f first (backTo pos (starEach (a :: es) X.env)) (backToKw pos (keywordEach [] X.env))) := by rfl) :
    DE k X G W (.Call (.Attribute o m apos) (a :: es) [] pos) (eMeth c F fo fs) := fun cc => by
  obtain ⟨C, f, ns, hcl, cl, mt, hfx, D⟩ := T.ex
  obtain ⟨fd, ps, F0, hps, hk, hb⟩ := D.ex
  have F1 : FnOk X.prog X.w X.K X.mg X.base (L2.CX X.prog X.w) k f fd ps (spD G n F) := by rw [cc.hP, cc.hw, cc.hK, cc.hm]; exact F0
  refine ⟨fun pins s σ H Q I ⟨δ, μ, ι, rs, q⟩ => ?_⟩
  have q' : rE G W fo σ H fun v H1 => ∃ ad dx gs, v = .ref ad ∧ Rd H1 ad (.ins C dx gs) ∧ gs.lookup m = none ∧ rA G W fs σ H1 fun vs H2 => ∃ δ μ ι d l, RS G σ H2 δ μ ι ∧ DV G H2 ι d v ∧ DVs G H2 ι l vs ∧ RR G W σ δ (DV G) H2 ι (F (d :: l) μ) Q :=
    ⟨δ, μ, ι, rs, RR.bnd q fun d μ1 v H1 ι1 x1 p1 rs1 dx q => by
      cases h1 : insOf μ1 d with
      | none => simp only [h1] at q; exact q.elim
      | some cv =>
        obtain ⟨c', vs⟩ := cv
        simp only [h1] at q
        by_cases hc : c' = c
        · rw [if_pos hc] at q
          obtain ⟨ad, C', dd, gs, ns', e, rd, hcl', hn, dl⟩ := ins_view rs1 dx h1
          rw [hc, hcl] at hcl'
          cases hcl'
          refine ⟨ad, dd, gs, e, rd, fix_none (by rw [hn]; exact fix_none_take hfx), δ, μ1, ι1, rs1, RR.bnd q fun l μ2 vs H2 ι2 x2 p2 rs2 dl q => ⟨δ, μ2, ι2, d, l, rs2, DV.mono x2 p2 _ _ dx, dl, q⟩⟩
        · rw [if_neg hc] at q; exact q.elim⟩
  refine PySem.W.methodCall_KW (pl := pl) (thn ((ho cc).run pins s σ H _ I q') fun u s1 ⟨v, H1, I1, rx, ad, dx, gs, ev, rd, l, q⟩ => ?_) ht
  subst ev
  obtain rfl : u = Value.ref ad := rx
  refine getmethR I1 rd (by rw [cc.hK]; exact cl) (by rw [cc.hK]; exact mt) l ?_
  refine PySem.W.callWith_K (first := [.ref ad]) (h₀ := X.base) I1.ok.mod.kin (by rw [cc.hK]; exact hk) (thn ((ha cc).run pos pins s1 σ H1 _ I1 q) fun us s2 ⟨vs, H2, I2, r, δ, μ, ι, d, l, rs, dx, dl, q2⟩ => ⟨I2.kIn, ?_⟩) hst hpl
  exact run_fnS (us := .ref ad :: us) (vs := .ref ad :: vs) F1 cc.room (by rw [cc.hK]; exact hb) (passAt cc.tk σ) I2 (.cons rfl r) (fn_read D.ln rs (DVs.cons dx dl) q2)
theorem de_meth0 {m : Str} {n c : Nat} {F : FF} {pl : Sem Bool} (T : MtOk G X.base k c m n F) (ho : DE k X G W o fo)
    (ht : eval (.Call (.Attribute o m apos) [] [] pos) X.env = (do
      let ov ← eval o X.env
      standAt apos.atName
      let (f, first) ← holding [ov] (getMethod ov m pl)
      callWith pos f first (backTo pos (starEach [] X.env)) (backToKw pos (keywordEach [] X.env))) := by rfl) :
    DE k X G W (.Call (.Attribute o m apos) [] [] pos) (eMeth c F fo aNil) := fun cc => by
  obtain ⟨C, f, ns, hcl, cl, mt, hfx, D⟩ := T.ex
  obtain ⟨fd, ps, F0, hps, hk, hb⟩ := D.ex
  have F1 : FnOk X.prog X.w X.K X.mg X.base (L2.CX X.prog X.w) k f fd ps (spD G n F) := by rw [cc.hP, cc.hw, cc.hK, cc.hm]; exact F0
  refine ⟨fun pins s σ H Q I ⟨δ, μ, ι, rs, q⟩ => ?_⟩
  have q' : rE G W fo σ H fun v H1 => ∃ ad dx gs, v = .ref ad ∧ Rd H1 ad (.ins C dx gs) ∧ gs.lookup m = none ∧ ∃ δ μ ι d, RS G σ H1 δ μ ι ∧ DV G H1 ι d v ∧ RR G W σ δ (DV G) H1 ι (F [d] μ) Q :=
    ⟨δ, μ, ι, rs, RR.bnd q fun d μ1 v H1 ι1 x1 p1 rs1 dx q => by
      cases h1 : insOf μ1 d with
      | none => simp only [h1] at q; exact q.elim
      | some cv =>
        obtain ⟨c', vs⟩ := cv
        simp only [h1] at q
        by_cases hc : c' = c
        · rw [if_pos hc] at q
          obtain ⟨ad, C', dd, gs, ns', e, rd, hcl', hn, dl⟩ := ins_view rs1 dx h1
          rw [hc, hcl] at hcl'
          cases hcl'
          exact ⟨ad, dd, gs, e, rd, fix_none (by rw [hn]; exact fix_none_take hfx), δ, μ1, ι1, d, rs1, dx, q⟩
        · rw [if_neg hc] at q; exact q.elim⟩
  refine PySem.W.methodCall_KW (pl := pl) (thn ((ho cc).run pins s σ H _ I q') fun u s1 ⟨v, H1, I1, rx, ad, dx, gs, ev, rd, l, δ, μ, ι, d, rs, dxx, q⟩ => ?_) ht
  subst ev
  obtain rfl : u = Value.ref ad := rx
  refine getmethR I1 rd (by rw [cc.hK]; exact cl) (by rw [cc.hK]; exact mt) l ?_
  exact PySem.W.callWith_K0 (first := [.ref ad]) I1.kIn (by rw [cc.hK]; exact hk) (run_fnS (us := [.ref ad]) (vs := [.ref ad]) F1 cc.room (by rw [cc.hK]; exact hb) (passAt cc.tk σ) I1 (.cons rfl .nil) (fn_read D.ln rs (DVs.cons dxx (show DVs G H1 ι [] [] from rfl)) q))
/-! ### a property: its getter lets nothing out -/
structure PrOk (G : Glo) (base : Heap) (k : Nat) (c : Nat) (f : Str) (F : FF) : Prop where
  ex : ∃ C pp g ns, G.cl c = some (C, ns) ∧ Cls G.K C ∧ PropOf G.K C f pp g ∧ FnD G base k g 1 F
theorem getpropR {CX : CXT} {j : Nat} {C pp g ad dx : Addr} {gs : List (Str × V)} {f : Str} {fd : FuncData} {ps : List Str} {sp : Sp} {pins : List (Addr × Obj)} {σ : L2.St} {H : Hp} {s : Shared} {Q : VK} {b : Bool} {E : XK} {E' : Value → Shared → Prop} (I : Inv X pins σ H s) (ea : Rd H ad (.ins C dx gs)) (c : Cls X.K C) (hp : PropOf X.K C f pp g)
    (F : FnOk X.prog X.w X.K X.mg X.base CX j g fd ps sp) (hr : Room (j + 1) X.A) (hb : Binds X.K fd ps []) (hx : Passes CX X.nox E) (h : sp [.ref ad] H Q E) :
    wpAny (model X.prog X.w) X.A (getAttr (.ref ad) f b) (EP X pins σ Q) E' s := by
  obtain ⟨mA, O, _⟩ := ins_getR I ea
  obtain ⟨od, J, _⟩ := O.look
  obtain ⟨rest, hrec⟩ := hp.rec_
  have I1 := I.tok (s.toks + 1)
  have hl : ([Value.ref ad] ++ []).length = ps.length := F.len _ _ _ _ h
  have hc : (PySem.W.clsIn X.K C).isSome = true := by
    obtain ⟨cd, hc, _⟩ := PySem.W.any_some c.hd
    rw [hc]
    rfl
  refine PySem.W.get_bind I.kIn J (PySem.W.plainGet_of (c.get f)).1 (PySem.W.findObj_data hc hp.at_ hp.get hp.tak) (PySem.W.plainGet_of (c.get f)).2 (wpAny_call (PySem.W.prop_get (s := { s with toks := s.toks + 1 }) I.kIn hrec ?_))
  refine codeAny_mono (F.run X.A.in1 X.stack { s with toks := s.toks + 1 } H ⟨[.ref ad], []⟩ [.ref ad] [.ref ad] Q E hr.in1 I1.env0.in1 (hb _ [.ref ad] I1.kIn hl) (.cons rfl .nil) h) fun r s' hq => ?_
  cases r with
  | error er => exact False.elim (hx pins σ H { s with toks := s.toks + 1 } er s' (I1.wish _) hq)
  | ok fl =>
    cases fl with
    | ret u =>
      obtain ⟨v, H', I3, rv, q3⟩ := I1.after hq
      show wpAny _ _ (handedOut u) _ _ _
      rw [PySem.W.handedOut_of (handed_of rv)]
      exact wpAny_pure ⟨v, H', I3, rv, q3⟩
    | next => exact False.elim hq
    | brk => exact False.elim hq
    | cont => exact False.elim hq
@[simp] def eProp (c : Nat) (F : FF) (fa : EF) : EF := fun δ μ => (fa δ μ).bind fun d μ => match insOf μ d with
  | some (c', _) => if c' = c then (F [d] μ).nox else .no
  | none => .no
theorem fn_readN {F : FF} {n : Nat} (hF : ∀ ds μ, ds.length ≠ n → F ds μ = .no) {σ : L2.St} {H : Hp} {δ : Sl} {μ : MH} {ι : List Addr} {ds : List D} {vs : List V} {Q : VK} (rs : RS G σ H δ μ ι) (dv : DVs G H ι ds vs) (q : RR G W σ δ (DV G) H ι (F ds μ).nox Q) : spD G n F vs H Q E0 := by
  have hn : ds.length = n := by
    by_cases z : ds.length = n
    · exact z
    · rw [hF ds μ z] at q; exact q.elim
  refine ⟨by rw [← dv.length]; exact hn, μ, ι, ds, rs.hs, dv, ?_⟩
  revert q
  cases F ds μ with
  | ok d μ' => exact fun q v H' ι' x p hs' dv' => q v H' ι' x p (rs.ext x p hs') dv'
  | ex c es μ' => exact fun q => q.elim
  | no => exact fun q => q
theorem de_prop {f : Str} {c j : Nat} {F : FF} (T : PrOk G X.base j c f F) (hj : j + 1 ≤ k) (ha : DE k X G W a fa) (hb : attributeBase a f X.env (eval a X.env) = eval a X.env := by rfl) : DE k X G W (.Attribute a f pos) (eProp c F fa) := fun cc => by
  obtain ⟨C, pp, g, ns, hcl, cl, pr, D⟩ := T.ex
  obtain ⟨fd, ps, F0, hps, hk, hbd⟩ := D.ex
  have F1 : FnOk X.prog X.w X.K X.mg X.base (L2.CX X.prog X.w) j g fd ps (spD G 1 F) := by rw [cc.hP, cc.hw, cc.hK, cc.hm]; exact F0
  refine ⟨fun pins s σ H Q I ⟨δ, μ, ι, rs, q⟩ => ?_⟩
  have q' : rE G W fa σ H fun v H1 => ∃ ad dx gs, v = .ref ad ∧ Rd H1 ad (.ins C dx gs) ∧ ∃ δ μ ι d, RS G σ H1 δ μ ι ∧ DV G H1 ι d v ∧ RR G W σ δ (DV G) H1 ι (F [d] μ).nox Q :=
    ⟨δ, μ, ι, rs, RR.bnd q fun d μ1 v H1 ι1 x1 p1 rs1 dx q => by
      cases h1 : insOf μ1 d with
      | none => simp only [h1] at q; exact q.elim
      | some cv =>
        obtain ⟨c', vs⟩ := cv
        simp only [h1] at q
        by_cases hc : c' = c
        · rw [if_pos hc] at q
          obtain ⟨ad, C', dd, gs, ns', e, rd, hcl', hn, dl⟩ := ins_view rs1 dx h1
          rw [hc, hcl] at hcl'
          cases hcl'
          exact ⟨ad, dd, gs, e, rd, δ, μ1, ι1, d, rs1, dx, q⟩
        · rw [if_neg hc] at q; exact q.elim⟩
  refine attr_of hb (thn ((ha cc).run pins s σ H _ I q') fun u s1 ⟨v, H1, I1, rx, ad, dx, gs, ev, rd, δ, μ, ι, d, rs, dxx, q⟩ => ?_)
  subst ev
  obtain rfl : u = Value.ref ad := rx
  exact getpropR I1 rd (by rw [cc.hK]; exact cl) (by rw [cc.hK]; exact pr) F1 (cc.room.mono hj) (by rw [cc.hK]; exact hbd) passL (fn_readN D.ln rs (DVs.cons dxx (show DVs G H1 ι [] [] from rfl)) q)
/-! ### o.f(..), f a field that holds a def -/
structure FnT (G : Glo) (base : Heap) (k : Nat) (ft : Nat → FF) : Prop where
  fn : ∀ j ad, G.fn j = some ad → ∃ n, FnD G base k ad n (ft j)
theorem FnT.mono {G : Glo} {base : Heap} {j k : Nat} {ft : Nat → FF} (h : FnT G base j ft) (hj : j ≤ k) : FnT G base k ft := ⟨fun i ad e => let ⟨n, h⟩ := h.fn i ad e; ⟨n, h.mono hj⟩⟩
@[simp] def apD (ftab : Nat → FF) (d : D) (r : R (List D)) : R D := match d with
  | .fn j => r.bind fun l μ => ftab j l μ
  | _ => .no
@[simp] def eFc (ct : CT) (f : Str) (ftab : Nat → FF) (fo : EF) (g : AF) : EF := fun δ μ => (fo δ μ).bind fun d μ => (fldD ct f d μ).bind fun x μ => apD ftab x (g δ μ)
theorem de_fc {f : Str} {ftab : Nat → FF} {pl : Sem Bool} (T : CTok G ct) (FT : FnT G X.base k ftab) (ho : DE k X G W o fo) (ha : DA k X G W (a :: es) fs)
    (hst : starEach (a :: es) X.env = (false, eval a X.env) :: starEach es X.env := by rfl) (hpl : (backTo pos (starEach es X.env)).any (·.1) = false := by rfl)
    (ht : eval (.Call (.Attribute o f apos) (a :: es) [] pos) X.env = (do
      let ov ← eval o X.env
      standAt apos.atName
      let (f, first) ← holding [ov] (getMethod ov f pl)
      callWith pos f first (backTo pos (starEach (a :: es) X.env)) (backToKw pos (keywordEach [] X.env))) := by rfl) :
    DE k X G W (.Call (.Attribute o f apos) (a :: es) [] pos) (eFc ct f ftab fo fs) := fun cc => by
  refine ⟨fun pins s σ H Q I ⟨δ, μ, ι, rs, q⟩ => ?_⟩
  have q' : rE G W fo σ H fun v H1 => ∃ ad C dx gs j g, v = .ref ad ∧ Rd H1 ad (.ins C dx gs) ∧ Cls G.K C ∧ NoAttr G.K C f ∧ gs.lookup f = some (.ref g) ∧ G.fn j = some g ∧ rA G W fs σ H1 fun vs H2 => ∃ δ μ ι l, RS G σ H2 δ μ ι ∧ DVs G H2 ι l vs ∧ RR G W σ δ (DV G) H2 ι (ftab j l μ) Q :=
    ⟨δ, μ, ι, rs, RR.bnd q fun d μ1 v H1 ι1 x1 p1 rs1 dx q => by
      have q0 : RR G W σ δ (DV G) H1 ι1 (fldD ct f d μ1) fun v2 H2 => ∃ j g, v2 = .ref g ∧ G.fn j = some g ∧ rA G W fs σ H2 fun vs H3 => ∃ δ μ ι l, RS G σ H3 δ μ ι ∧ DVs G H3 ι l vs ∧ RR G W σ δ (DV G) H3 ι (ftab j l μ) Q :=
        RR.bnd q fun x μ2 v2 H2 ι2 x2 p2 rs2 dx2 q => by
          cases x with
          | fn j =>
            obtain ⟨g, hg, e⟩ := dx2
            exact ⟨j, g, e, hg, δ, μ2, ι2, rs2, RR.bnd q fun l μ3 vs H3 ι3 x3 p3 rs3 dl q => ⟨δ, μ3, ι3, l, rs3, dl, q⟩⟩
          | _ => exact q.elim
      obtain ⟨ad, C, dd, gs, x, y, rfl, rd, cl, na, l, dy, e⟩ := fld_view (rel := DV G) T rs1 dx q0
      rw [e] at q0
      obtain ⟨j, g, rfl, hg, q0⟩ := q0.now rs1 dy
      exact ⟨ad, C, dd, gs, j, g, rfl, rd, cl, na, l, hg, q0⟩⟩
  refine PySem.W.methodCall_KW (pl := pl) (thn ((ho cc).run pins s σ H _ I q') fun u s1 ⟨v, H1, I1, rx, ad, C, dx, gs, j, g, ev, rd, cl, na, l, hg, q⟩ => ?_) ht
  subst ev
  obtain rfl : u = Value.ref ad := rx
  obtain ⟨n, D⟩ := FT.fn j g hg
  obtain ⟨fd, ps, F0, hps, hk, hb⟩ := D.ex
  have F1 : FnOk X.prog X.w X.K X.mg X.base (L2.CX X.prog X.w) k g fd ps (spD G n (ftab j)) := by rw [cc.hP, cc.hw, cc.hK, cc.hm]; exact F0
  refine getfldR I1 rd (by rw [cc.hK]; exact cl) (by rw [cc.hK]; exact na) l fun u s2 I2 ru => ?_
  obtain rfl : u = Value.ref g := ru
  refine PySem.W.callWith_K (first := []) (h₀ := X.base) I2.ok.mod.kin (by rw [cc.hK]; exact hk) (thn ((ha cc).run pos pins s2 σ H1 _ I2 q) fun us s3 ⟨vs, H2, I3, r, δ, μ, ι, l, rs, dl, q2⟩ => ⟨I3.kIn, ?_⟩) hst hpl
  exact run_fnS (us := us) (vs := vs) F1 cc.room (by rw [cc.hK]; exact hb) (passAt cc.tk σ) I3 r (fn_read D.ln rs dl q2)
end
end SZ
end
section
/-! SZ, part S: making of instances; defs with defaults. -/
namespace SZ
open PySem PySem.Spec PyProof.Rows L2
/-- a class that is made by the def F of its __init__; dds: the defaults that fill up -/
structure MkOk (G : Glo) (base : Heap) (k : Nat) (c : Nat) (n : Nat) (F : FF) (dds : List D) (x : Str) : Prop where
  ex : ∃ C f ns fd ps dvs ds, G.cl c = some (C, ns) ∧ G.mg x = some (.ref C) ∧ Mk G.K C f ∧ FnOk G.P G.w G.K G.mg base (L2.CX G.P G.w) k f fd ps (spD G n F) ∧ ps.length = n ∧ Binds G.K fd ps ds ∧ Vals dvs ds ∧ ∀ H ι, DVs G H ι dds dvs
  ln : ∀ ds μ, ds.length ≠ n → F ds μ = .no
theorem MkOk.mono {G : Glo} {base : Heap} {j k : Nat} {c n : Nat} {F : FF} {dds : List D} {x : Str} (h : MkOk G base j c n F dds x) (hj : j ≤ k) : MkOk G base k c n F dds x := by
  obtain ⟨C, f, ns, fd, ps, dvs, ds, h1, h2, h3, h4, h5⟩ := h.ex
  exact ⟨⟨C, f, ns, fd, ps, dvs, ds, h1, h2, h3, h4.mono hj, h5⟩, h.ln⟩
section
variable {k : Nat} {X : Cx} {G : Glo} {W : WX} {a b c o : Expr} {fa fb fc fe fo : EF} {ta tb ft : TF} {pos p apos : Pos} {es : List Expr} {fs : AF} {ct : CT}
theorem run_mkS {CX : CXT} {j : Nat} {f C : Addr} {fd : FuncData} {ps : List Str} {sp : Sp} {dvs : List V} {ds : List Value} {E : XK} {pins : List (Addr × Obj)} {σ : L2.St} {H : Hp} {s : Shared} {Q : VK} {us : List Value} {vs : List V} (M : Mk X.K C f) (F : FnOk X.prog X.w X.K X.mg X.base CX j f fd ps sp) (hr : Room (j + 1) X.A) (hb : Binds X.K fd ps ds) (hd : Vals dvs ds)
    (hx : PassesAt CX X σ E) (I : Inv X pins σ H s) (r : Vals vs us)
    (h : ∀ x dx, H x = none → H dx = none → dx ≠ x → sp (.ref x :: (vs ++ dvs)) (upd (upd H dx (.own x)) x (.ins C dx [])) (fun v H2 => v = .non ∧ Q (.ref x) H2) E) :
    wpAny (model X.prog X.w) X.A (call (.ref C) us) (EP X pins σ Q) X.xe s := by
  have hq := h (s.heap.objs.size + 1) s.heap.objs.size (I.hok.fresh (Nat.le_succ _)) (I.hok.fresh (Nat.le_refl _)) (Nat.ne_of_lt (Nat.lt_succ_self _))
  have I2 := Inv.made (C := C) I
  have r2 : Vals (V.ref (s.heap.objs.size + 1) :: (vs ++ dvs)) (Value.ref (s.heap.objs.size + 1) :: (us ++ ds)) := .cons rfl (r.append hd)
  have hl : (Value.ref (s.heap.objs.size + 1) :: us ++ ds).length = ps.length := by
    have e := r2.length
    rw [F.len _ _ _ _ hq] at e
    exact e.symm
  refine wpAny_call (make_map (f := f) I.kIn M.makes M.init (beq_iff_eq.mp M.fn) (codeAny_mono (F.run _ X.stack _ _ ⟨Value.ref (s.heap.objs.size + 1) :: us, []⟩ (Value.ref (s.heap.objs.size + 1) :: (us ++ ds)) _ _ E (hr.make C us [])
    (I2.env0.make C us []) (hb _ (Value.ref (s.heap.objs.size + 1) :: us) I2.kIn hl) r2 hq) fun r s' hq' => ?_))
  cases r with
  | error e => exact hx pins _ _ e s' I2 hq'
  | ok fl =>
    cases fl with
    | ret u =>
      obtain ⟨v, H', I3, rv, ev, q3⟩ := I2.after hq'
      subst ev
      exact ⟨rv, ⟨V.ref (s.heap.objs.size + 1), H', I3, rfl, q3⟩⟩
    | next => exact False.elim hq'
    | brk => exact False.elim hq'
    | cont => exact False.elim hq'
@[simp] def mkD (c : Nat) (F : FF) (dds l : List D) (μ : MH) : R D := match F (.ref μ.length :: (l ++ dds)) (μ ++ [some (.ins c [])]) with
  | .ok .non μ' => .ok (.ref μ.length) μ'
  | .ex e ds μ' => .ex e ds μ'
  | _ => .no
@[simp] def eMk (c : Nat) (F : FF) (dds : List D) (g : AF) : EF := fun δ μ => (g δ μ).bind fun l μ => mkD c F dds l μ
theorem mk_read {c n : Nat} {F : FF} {dds l : List D} {C : Addr} {ns : List Str} {dvs vs : List V} {σ : L2.St} {H : Hp} {δ : Sl} {μ : MH} {ι : List Addr} {Q : VK} (hF : ∀ ds μ, ds.length ≠ n → F ds μ = .no) (hcl : G.cl c = some (C, ns)) (hd : ∀ H ι, DVs G H ι dds dvs) (rs : RS G σ H δ μ ι) (dl : DVs G H ι l vs) (q : RR G W σ δ (DV G) H ι (mkD c F dds l μ) Q) :
    ∀ x dx, H x = none → H dx = none → dx ≠ x → spD G n F (.ref x :: (vs ++ dvs)) (upd (upd H dx (.own x)) x (.ins C dx [])) (fun v H2 => v = .non ∧ Q (.ref x) H2) (WE W σ) := fun x dx hx hdx hne => by
  have x1 : Ext H (upd H dx (.own x)) := Ext.upd_free hdx
  have hx2 : (upd H dx (.own x)) x = none := by rw [upd_ne (Ne.symm hne)]; exact hx
  have x2 : Ext (upd H dx (.own x)) (upd (upd H dx (.own x)) x (.ins C dx [])) := Ext.upd_free hx2
  have hs1 : HS G (upd H dx (.own x)) μ ι := rs.hs.same (Same.upd_free hdx)
  have hs2 : HS G (upd (upd H dx (.own x)) x (.ins C dx [])) (μ ++ [some (.ins c [])]) (ι ++ [x]) := hs1.alloc hx2 _ ⟨C, dx, [], ns, upd_same, hcl, by simp, rfl⟩
  have hn : (ι ++ [x])[μ.length]? = some x := by rw [← rs.hs.ln]; simp
  have dv : DVs G (upd (upd H dx (.own x)) x (.ins C dx [])) (ι ++ [x]) (.ref μ.length :: (l ++ dds)) (.ref x :: (vs ++ dvs)) :=
    .cons ⟨x, hn, rfl⟩ ((DVs.mono (x1.trans x2) (List.prefix_append _ _) _ _ dl).append (hd _ _))
  have rs2 : RS G σ (upd (upd H dx (.own x)) x (.ins C dx [])) δ (μ ++ [some (.ins c [])]) (ι ++ [x]) := rs.ext (x1.trans x2) (List.prefix_append _ _) hs2
  have hlen : (D.ref μ.length :: (l ++ dds)).length = n := by
    by_cases z : (D.ref μ.length :: (l ++ dds)).length = n
    · exact z
    · simp only [mkD, hF _ _ z] at q; exact q.elim
  refine ⟨by rw [← dv.length]; exact hlen, _, _, _, hs2, dv, ?_⟩
  unfold mkD at q
  revert q
  cases F (.ref μ.length :: (l ++ dds)) (μ ++ [some (.ins c [])]) with
  | ok d μ' =>
    intro q
    cases d <;> first | exact q.elim | skip
    exact fun v H' ι' x' p' hs' dv' => ⟨dv', q _ H' ι' ((x1.trans x2).trans x') ((List.prefix_append _ _).trans p') (rs2.ext x' p' hs') ⟨x, pre_get p' hn, rfl⟩⟩
  | ex e es μ' => exact fun q cls dd H' ι' x' p' hs' xr => q cls dd H' ι' ((x1.trans x2).trans x') ((List.prefix_append _ _).trans p') (rs2.ext x' p' hs') xr
  | no => exact fun q => q.elim
theorem mk_core {x : Str} {c n j : Nat} {F : FF} {dds : List D} (T : MkOk G X.base j c n F dds x) (hj : j + 1 ≤ k) (ha : DA k X G W (a :: es) fs) (hg : Gl X x)
    (hdb : (x == ("__debug__" : Str)) = false) (he : starEach (a :: es) X.env = (false, eval a X.env) :: starEach es X.env) (hpl : (backTo pos (starEach es X.env)).any (·.1) = false) (cc : CC k X G W) {pins : List (Addr × Obj)} {s : Shared} {σ : L2.St} {H : Hp} {Q : VK} (I : Inv X pins σ H s)
    (q' : rA G W fs σ H fun vs H1 => ∃ δ μ ι l, RS G σ H1 δ μ ι ∧ DVs G H1 ι l vs ∧ RR G W σ δ (DV G) H1 ι (mkD c F dds l μ) Q) :
    wpAny (model X.prog X.w) X.A (eval (.Call (.Name x p) (a :: es) [] pos) X.env) (EP X pins σ Q) X.xe s := by
  obtain ⟨C, f, ns, fd, ps, dvs, ds, hcl, hm, M, F0, hps, hb, hv, hd⟩ := T.ex
  have F1 : FnOk X.prog X.w X.K X.mg X.base (L2.CX X.prog X.w) j f fd ps (spD G n F) := by rw [cc.hP, cc.hw, cc.hK, cc.hm]; exact F0
  refine wpAny_Call_Name_kw (ld_glob I hg (by rw [cc.hm]; exact hm) ?_ hdb)
  refine PySem.W.callWith_K (h₀ := X.base) I.ok.mod.kin (by rw [cc.hK]; exact M.kp) (thn ((ha cc).run pos pins s σ H _ I q') fun us s1 ⟨vs, H1, I1, r, δ, μ, ι, l, rs, dl, q⟩ => ⟨I1.kIn, ?_⟩) he hpl
  exact run_mkS (by rw [cc.hK]; exact M) F1 (cc.room.mono hj) (by rw [cc.hK]; exact hb) hv (passAt cc.tk σ) I1 r (mk_read T.ln hcl hd rs dl q)
theorem de_mk {x : Str} {c n j : Nat} {F : FF} {dds : List D} (T : MkOk G X.base j c n F dds x) (hj : j + 1 ≤ k) (ha : DA k X G W (a :: es) fs) (hg : Gl X x := by rfl)
    (hdb : (x == ("__debug__" : Str)) = false := by decide) (he : starEach (a :: es) X.env = (false, eval a X.env) :: starEach es X.env := by rfl) (hpl : (backTo pos (starEach es X.env)).any (·.1) = false := by rfl) :
    DE k X G W (.Call (.Name x p) (a :: es) [] pos) (eMk c F dds fs) := fun cc => ⟨fun pins s σ H Q I ⟨δ, μ, ι, rs, q⟩ =>
  mk_core T hj ha hg hdb he hpl cc I ⟨δ, μ, ι, rs, RR.bnd q fun l μ1 vs H1 ι1 x1 p1 rs1 dl q => ⟨δ, μ1, ι1, l, rs1, dl, q⟩⟩⟩
/-- the new instance is handed on as one that never changes -/
@[simp] def frzI (ct : CT) : D → MH → R D := fun d μ => match d with
  | .ref n => match μ[n]? with
    | some (some (.ins c vs)) => if vs.length = (ct c).length ∧ vs ≠ [] then .ok (.obj c vs) (μ.set n none) else .no
    | _ => .no
  | _ => .no
@[simp] def eMkF (ct : CT) (c : Nat) (F : FF) (dds : List D) (g : AF) : EF := fun δ μ => (g δ μ).bind fun l μ => trunc μ ((mkD c F dds l μ).bind (frzI ct))
theorem frzI_read {σ : L2.St} {δ : Sl} {H : Hp} {ι : List Addr} {d : D} {v : V} {μ : MH} {Q : VK} (T : CTok G ct) (rs : RS G σ H δ μ ι) (dx : DV G H ι d v) (q : RR G W σ δ (DV G) H ι (frzI ct d μ) Q) : FQ Q v H := by
  unfold frzI at q
  split at q
  · rename_i n
    obtain ⟨a, ea, rfl⟩ := dx
    split at q
    · rename_i c vs em
      by_cases hl : vs.length = (ct c).length ∧ vs ≠ []
      · rw [if_pos hl] at q
        obtain ⟨C, dd, fs, ns, e1, e2, e3, e4⟩ := rs.hs.there em ea
        have hne : ct c ≠ [] := fun z => hl.2 (List.eq_nil_of_length_eq_zero (by rw [hl.1, z]; rfl))
        obtain ⟨rfl, _⟩ := T.fld c C ns e2 hne
        refine .inl ⟨a, _, rfl, e1, trivial, fun o => ?_⟩
        have x : Ext H (upd H a (.frz o (.ins C dd fs))) := Ext.upd_chg e1 trivial
        refine q _ _ ι x (List.prefix_refl _) (rs.ext x (List.prefix_refl _) (rs.hs.frz em ea _)) ⟨a, o, C, dd, fs, _, rfl, upd_same, e2, ?_, DVs.mono x (List.prefix_refl _) _ _ e4⟩
        rw [e3, hl.1, List.take_length]
      · rw [if_neg hl] at q; exact q.elim
    · exact q.elim
  · exact q.elim
theorem de_mkF {x : Str} {c n j : Nat} {F : FF} {dds : List D} (CTk : CTok G ct) (T : MkOk G X.base j c n F dds x) (hj : j + 1 ≤ k) (ha : DA k X G W (a :: es) fs) (hg : Gl X x := by rfl)
    (hdb : (x == ("__debug__" : Str)) = false := by decide) (he : starEach (a :: es) X.env = (false, eval a X.env) :: starEach es X.env := by rfl) (hpl : (backTo pos (starEach es X.env)).any (·.1) = false := by rfl) :
    DE k X G W (.Call (.Name x p) (a :: es) [] pos) (eMkF ct c F dds fs) := fun cc => ⟨fun pins s σ H Q I ⟨δ, μ, ι, rs, q⟩ =>
  thn (mk_core (Q := FQ Q) T hj ha hg hdb he hpl cc I ⟨δ, μ, ι, rs, RR.bnd q fun l μ1 vs H1 ι1 x1 p1 rs1 dl q => ⟨δ, μ1, ι1, l, rs1, dl, RR.bnd (trunc_read rs1 q) fun d μ2 v H2 ι2 x2 p2 rs2 dx q => frzI_read CTk rs2 dx q⟩⟩) fun _ _ z => FQ.ep z⟩
/-! ### defs with defaults -/
theorem fn_dd {base : Heap} (hx : G.xa = none) {x qual : Str} {pa : Arguments} {bd : List Stmt} {sc : Scope} {dvs : List V} {kws : List (Str × V)} {f : Addr} {fd : FuncData} {N ps : List Str} {body : SF} (T : FunD G.K x qual pa bd sc dvs kws f fd) (S : FnScope N ps sc)
    (hb : ∀ (cdv : Value) (A : Around) (outer : List Env) (s : Shared) (H : Hp) (E : XK),
      DSs k (cxOf (L2.CX G.P G.w) G.P G.w G.K G.mg base N qual sc f cdv A outer s H E) G (fun cls dd _ H' => E cls dd H') bd body) :
    FnOk G.P G.w G.K G.mg base (L2.CX G.P G.w) (k + 1) f fd ps (spD G ps.length (fnB N.length ps.length body)) :=
  T.ok S (fun vs H Q E h => h.1) (fn_body hx S hb)
end
end SZ
end
section
/-! SZ, part T: raise, try. -/
namespace SZ
open PySem PySem.Spec PyProof.Rows L2
/-! ### what is never reached -/
section
variable {k : Nat} {X : Cx} {G : Glo} {W : WX} {a b c o : Expr} {fa fb fc fe fo : EF} {ta tb ft : TF} {pos p apos : Pos} {es : List Expr} {fs : AF} {ct : CT} {st : Stmt} {sts : List Stmt}
theorem de_nv : DE k X G W a (fun _ _ => .no) := fun _ => ⟨fun _ _ _ _ _ _ ⟨_, _, _, _, q⟩ => q.elim⟩
theorem ds_nv : DS k X G W st (fun _ _ => .no) := fun _ => ⟨fun _ _ _ _ _ _ ⟨_, _, _, _, q⟩ => q.elim⟩
theorem dss_nv : DSs k X G W sts (fun _ _ => .no) := fun _ => ⟨fun _ _ _ _ _ _ ⟨_, _, _, _, q⟩ => q.elim⟩
end
/-! ### raise -/
/-- an exception class without an __init__ of its own -/
structure X0Ok (G : Glo) (x : Str) (c : Nat) : Prop where
  ex : ∃ C, G.mg x = some (.ref C) ∧ G.cl c = some (C, []) ∧ PySem.W.excIn G.K C [.type "ValueError", .type "Exception", .type "BaseException", .type "object"] "ValueError.__new__" = true ∧ PySem.W.keepIn G.K (.ref C) = true ∧
    PySem.W.subIn G.K (.ref C) (.type "BaseException") = some true ∧ PySem.W.typeIn G.K (.ref C) = some (.type "type")
/-- what such an __init__ promises -/
def spXI (C : Addr) (fl : List Str) : Sp := fun vs H Q _ => vs.length = fl.length + 1 ∧ ∃ a ys, vs = .ref a :: ys ∧ H a = some (exo a C none) ∧
  ∀ d, H d = none → d ≠ a → Q .non (upd (upd H d (exd d ((fl.zip ys).reverse))) a (exo a C (some d)))
/-- .. with one: fields in the order in which it sets them -/
structure X1Ok (G : Glo) (base : Heap) (k : Nat) (x : Str) (c : Nat) (fl : List Str) : Prop where
  ex : ∃ C fI fd ps, G.mg x = some (.ref C) ∧ G.cl c = some (C, fl.reverse) ∧ OexC G.K C ∧ PySem.W.findIn G.K (.ref C) "__init__" = some (some (.ref fI)) ∧ PySem.W.typeIn G.K (.ref fI) = some (.type "function") ∧
    Binds G.K fd ps [] ∧ FnOk G.P G.w G.K G.mg base (L2.CX G.P G.w) k fI fd ps (spXI C fl)
theorem X1Ok.mono {G : Glo} {base : Heap} {j k : Nat} {x : Str} {c : Nat} {fl : List Str} (h : X1Ok G base j x c fl) (hj : j ≤ k) : X1Ok G base k x c fl := by
  obtain ⟨C, fI, fd, ps, h1, h2, h3, h4, h5, h6, h7⟩ := h.ex
  exact ⟨C, fI, fd, ps, h1, h2, h3, h4, h5, h6, h7.mono hj⟩
section
variable {k : Nat} {X : Cx} {G : Glo} {W : WX} {a b c o : Expr} {fa fb fc fe fo : EF} {ta tb ft : TF} {pos p apos pos2 : Pos} {es : List Expr} {fs : AF} {ct : CT} {st : Stmt} {sts : List Stmt}
@[simp] def sRz0 (c : Nat) : SF := fun δ μ => .ex c [] δ μ
theorem pmk_own0 {x : Str} {C : Addr} {bmB : List Value} {B newId initId : String} (F : ExcBaseFacts B newId initId bmB) (q : PySem.W.excIn X.K C bmB newId = true) (gC : X.mg x = some (.ref C)) (kC : PySem.W.keepIn X.K (.ref C) = true) (r : Raises X (.ref C)) (hg : Gl X x)
    (hdb : (x == ("__debug__" : Str)) = false := by decide) : PMk X (.Call (.Name x p) [] [] pos) (fun _ H Q => Q (.ref C) none H) := by
  intro pins s σ H Q I h
  refine wpAny_Call_Name_kw (ld_glob I hg gC ?_ hdb)
  refine PySem.W.callWith_K0 I.kIn kC ?_
  show wpAny _ _ (call (.ref C) []) _ _ _
  obtain ⟨bm, N, nm, qn, bs, hdct, sn, sub, ab, col, dd, k0, k1, k2, k3, k5, mN, hC, hN, hni, T⟩ := exc_obj I.kIn q
  exact wpAny_call_exc_subT F T hC hN hni (fun h' e hm => mk_of I hm r h (I.hok.gone hm.new)) (Nat.zero_le _)
theorem ds_rz0 {x : Str} {c : Nat} (T : X0Ok G x c) (hg : Gl X x := by rfl) (hdb : (x == ("__debug__" : Str)) = false := by decide) : DS k X G W (.Raise (some (.Call (.Name x p) [] [] pos)) none pos2) (sRz0 c) := fun cc => by
  obtain ⟨C, hm, hcl, h1, h2, h3, h4⟩ := T.ex
  exact psI (ps_raise cc.calm cc.tk (pmk_own0 PySem.F.excBase_ValueError (by rw [cc.hK]; exact h1) (by rw [cc.hm]; exact hm) (by rw [cc.hK]; exact h2) (raises_own (by rw [cc.hK]; exact h3) (by rw [cc.hK]; exact h4)) hg hdb)) fun D σ H ⟨δ, μ, ι, rs, q⟩ =>
    q (.ref C) none σ H ι .refl (List.prefix_refl _) rs ⟨C, [], hcl, rfl, .inl ⟨rfl, rfl, rfl⟩⟩
@[simp] def sRz1 (c n : Nat) (g : AF) : SF := fun δ μ => (g δ μ).to δ fun l μ => if l.length = n ∧ l ≠ [] then .ex c l.reverse δ μ else .no
theorem zip_fst {fl : List Str} : ∀ {ys : List V}, ys.length = fl.length → (fl.zip ys).map (·.1) = fl ∧ (fl.zip ys).map (·.2) = ys := by
  induction fl with
  | nil => intro ys h; cases ys with
    | nil => exact ⟨rfl, rfl⟩
    | cons _ _ => cases h
  | cons f fl ih =>
    intro ys h
    cases ys with
    | nil => cases h
    | cons y ys =>
      obtain ⟨a, b⟩ := ih (ys := ys) (by simpa using h)
      simp [a, b]
theorem ds_rz1 {x : Str} {c j : Nat} {fl : List Str} (T : X1Ok G X.base j x c fl) (hj : j + 1 ≤ k) (hfl : fl.length ≤ 900) (ha : DA k X G W (a :: es) fs) (hg : Gl X x := by rfl) (hdb : (x == ("__debug__" : Str)) = false := by decide)
    (he : starEach (a :: es) X.env = (false, eval a X.env) :: starEach es X.env := by rfl) (hpl : (backTo pos (starEach es X.env)).any (·.1) = false := by rfl) :
    DS k X G W (.Raise (some (.Call (.Name x p) (a :: es) [] pos)) none pos2) (sRz1 c fl.length fs) := fun cc => by
  obtain ⟨C, fI, fd, ps, hm, hcl, oex, iC, tI, hb, F0⟩ := T.ex
  have F1 : FnOk X.prog X.w X.K X.mg X.base (L2.CX X.prog X.w) j fI fd ps (spXI C fl) := by rw [cc.hP, cc.hw, cc.hK, cc.hm]; exact F0
  refine psI (ps_raise cc.calm cc.tk (pmk_oex (by rw [cc.hK]; exact oex) (by rw [cc.hK]; exact iC) (by rw [cc.hK]; exact tI) F1 (cc.room.mono hj) (by rw [cc.hK]; exact hb) .nil passL hg (by rw [cc.hm]; exact hm) (ha cc) hdb he hpl)) fun D σ H ⟨δ, μ, ι, rs, q⟩ => ⟨δ, μ, ι, rs, RR.to q fun l μ1 vs H1 ι1 x1 p1 rs1 dl q => ?_⟩
  by_cases hn : l.length = fl.length ∧ l ≠ []
  · rw [if_pos hn] at q
    have hv : vs.length = fl.length := by rw [← dl.length]; exact hn.1
    refine ⟨by omega, fun ad na => ⟨by simp [hv], ad, vs, by rw [List.append_nil], upd_same, fun d nd hne => ⟨rfl, d, (fl.zip vs).reverse, upd_same, ?_, ?_, ?_⟩⟩⟩
    · rw [upd_ne hne, upd_same]
    · rw [upd_ne hne] at nd; exact nd
    · have nd' : H1 d = none := by rw [upd_ne hne] at nd; exact nd
      have e : upd (L2.del (upd (upd (upd H1 ad (exo ad C none)) d (exd d ((fl.zip vs).reverse))) ad (exo ad C (some d))) ad) d (.xd ((fl.zip vs).reverse)) = upd H1 d (.xd ((fl.zip vs).reverse)) := by
        funext b
        unfold upd L2.del
        by_cases h1 : b = d
        · rw [if_pos h1, if_pos h1]
        · rw [if_neg h1, if_neg h1]
          by_cases h2 : b = ad
          · rw [if_pos h2, h2, na]
          · simp only [if_neg h2, if_neg h1]
      rw [e]
      have xx : Ext H1 (upd H1 d (.xd ((fl.zip vs).reverse))) := Ext.upd_free nd'
      obtain ⟨z1, z2⟩ := zip_fst hv
      refine q _ _ σ _ ι1 xx (List.prefix_refl _) (rs1.same (Same.upd_free nd')) ⟨C, fl.reverse, hcl, rfl, .inr ⟨d, _, rfl, upd_same, by rw [List.map_reverse, z1], ?_⟩⟩
      rw [List.map_reverse, z2]
      exact (DVs.mono xx (List.prefix_refl _) _ _ dl).reverse
  · rw [if_neg hn] at q; exact q.elim
/-! ### an __init__ of an exception class: its fields set, one after the other -/
theorem init_run1 {Y : Cx} {C : Addr} {f : Str} {p1 p2 p3 p4 : Pos} (T : OexC Y.K C) (hno : PySem.W.findIn Y.K (.ref C) f = some none) (h0 : Y.N[0]? = some ("self" : Str)) (h1 : Y.N[1]? = some f) (v0 : Vis Y.env.scope "self") (v1 : Vis Y.env.scope f) (hd : (f == ("__debug__" : Str)) = false := by decide) (hcd : (f == ("__classdict__" : Str)) = false := by decide)
    (hs : swapsWith (.Name f p3) (some (.Attribute (.Name "self" p1) f p2)) p4.line Y.env = pure false := by rfl) :
    PSs Y [.Assign [.Attribute (.Name "self" p1) f p2] (.Name f p3) p4] (fun D σ H => ∃ a y, σ[0]? = some (some (.ref a)) ∧ σ[1]? = some (some y) ∧ H a = some (exo a C none) ∧ ∀ d, H d = none → d ≠ a → D.nx σ (upd (upd H d (exd d [(f, y)])) a (exo a C (some d)))) :=
  pssI (pss_one (ps_ost (pe_var h0 v0) (pe_var h1 v1 hd hcd) hs)) fun D σ H ⟨a, y, e0, e1, ea, q⟩ => ⟨y, e1, .ref a, e0, a, C, rfl, T, hno, .inl ⟨ea, q⟩⟩
theorem init_run2 {Y : Cx} {C : Addr} {f g : Str} {p1 p2 p3 p4 p5 p6 p7 p8 : Pos} (T : OexC Y.K C) (hno : PySem.W.findIn Y.K (.ref C) f = some none) (hno2 : PySem.W.findIn Y.K (.ref C) g = some none) (h0 : Y.N[0]? = some ("self" : Str)) (h1 : Y.N[1]? = some f) (h2 : Y.N[2]? = some g) (v0 : Vis Y.env.scope "self") (v1 : Vis Y.env.scope f) (v2 : Vis Y.env.scope g) (hd : (f == ("__debug__" : Str)) = false := by decide) (hcd : (f == ("__classdict__" : Str)) = false := by decide)
    (hd2 : (g == ("__debug__" : Str)) = false := by decide) (hcd2 : (g == ("__classdict__" : Str)) = false := by decide)
    (hs : swapsWith (.Name f p3) (some (.Attribute (.Name "self" p1) f p2)) p4.line Y.env = pure false := by rfl) (hs2 : swapsWith (.Name g p7) (some (.Attribute (.Name "self" p5) g p6)) p8.line Y.env = pure false := by rfl) :
    PSs Y [.Assign [.Attribute (.Name "self" p1) f p2] (.Name f p3) p4, .Assign [.Attribute (.Name "self" p5) g p6] (.Name g p7) p8] (fun D σ H => ∃ a y z, σ[0]? = some (some (.ref a)) ∧ σ[1]? = some (some y) ∧ σ[2]? = some (some z) ∧ H a = some (exo a C none) ∧
      ∀ d, H d = none → d ≠ a → D.nx σ (upd (upd H d (exd d [(g, z), (f, y)])) a (exo a C (some d)))) :=
  pssI (pss_cons (ps_ost (pe_var h0 v0) (pe_var h1 v1 hd hcd) hs) (pss_one (ps_ost (pe_var h0 v0) (pe_var h2 v2 hd2 hcd2) hs2))) fun D σ H ⟨a, y, z, e0, e1, e2, ea, q⟩ =>
    ⟨y, e1, .ref a, e0, a, C, rfl, T, hno, .inl ⟨ea, fun d nd hne => ⟨z, e2, .ref a, e0, a, C, rfl, T, hno2, .inr ⟨d, [(f, y)], upd_same, by rw [upd_ne hne, upd_same], by simp, by
      have := q d nd hne
      have e : upd (upd (upd H d (exd d [(f, y)])) a (exo a C (some d))) d (exd d [(g, z), (f, y)]) = upd (upd H d (exd d [(g, z), (f, y)])) a (exo a C (some d)) := by
        funext b
        unfold upd
        by_cases h1 : b = d
        · subst h1
          simp [hne]
        · simp only [if_neg h1]
      rw [e]
      exact this⟩⟩⟩⟩
end
end SZ
end
section
/-! SZ, part U: try with several clauses, each 'as' one name. -/
namespace SZ
open PySem PySem.Spec PyProof.Rows L2
/-- an end behind which slot i is gone -/
def Wo (i : Nat) (D : Ends) : Ends := { nx := fun σ' H' => D.nx (σ'.set i none) H', rt := D.rt, bk := fun σ' H' => D.bk (σ'.set i none) H', ct := fun σ' H' => D.ct (σ'.set i none) H' }
abbrev Cls1 := Value × (Addr → Value → Option Addr → TS)
def wAll (K : PySem.W.Frag) (i : Nat) (Wout : WX) (D : Ends) : List Cls1 → WX
  | [] => Wout
  | (c, ts) :: r => fun cls d σ H => ∃ b, PySem.W.exmOne K cls c = some b ∧ (b = true → ∀ a, H a = none → ts a cls d (Wo i D) (σ.set i (some (.ref a))) H) ∧ (b = false → wAll K i Wout D r cls d σ H)
inductive HdsAs (X : Cx) (n : Str) : List ExceptHandler → List Cls1 → Prop
  | nil : HdsAs X n [] []
  | cons {x : Str} {c : Value} {ts : Addr → Value → Option Addr → TS} {b₀ : Stmt} {suite : List Stmt} {np pos' : Pos} {hds : List ExceptHandler} {l : List Cls1} (hc : Names X x c)
      (hsu : ∀ (a : Addr) (oe : Obj) (cls : Value) (d : Option Addr) (pn : List (Addr × Obj)), Zc cls d oe → (∃ vs, oe.data = .fields vs) → PSs (X.suite a ((a, oe) :: pn)) (b₀ :: suite) (ts a cls d)) (r : HdsAs X n hds l) :
      HdsAs X n (.ExceptHandler (some (.Name x np)) (some n) (b₀ :: suite) pos' :: hds) ((c, ts) :: l)
section
variable {X : Cx} {n : Str} {i : Nat} {body : List Stmt} {h₀ : ExceptHandler} {hds : List ExceptHandler} {l : List Cls1} {pos : Pos} {tb : WX → TS} {Wout : WX}
theorem ps_try_all (hs : X.stack = X.env :: X.outer) (hf : X.env.frame = some X.env.locals) (hN : X.N.Nodup) (hi : X.N[i]? = some n) (hln : X.env.kindOf n = some .local) (tk : Takes X Wout)
    (hb : ∀ (W : WX) (pn : List (Addr × Obj)) (xe : Value → Shared → Prop), Takes (X.tr pn xe) W → PassesOwn (model X.prog X.w) X.A X.env xe → PSs (X.tr pn xe) body (tb W))
    (hh : HdsAs X n (h₀ :: hds) l) : PS X (.Try body (h₀ :: hds) [] [] pos) (fun D σ H => tb (wAll X.K i Wout D l) D σ H) := by
  refine ⟨fun pins s σ H D I h => ?_⟩
  have ok := I.ok
  have hfr : X.A.frames = some (X.env :: X.outer) := by rw [ok.frames, hs]
  have hloc : Loc X.env.scope n := .inl hln
  refine wpAny_Try_except ?_
  refine wpAny_mono ((hb (wAll X.K i Wout D l) (X.pn ++ pins) (fun e s₁ => wpAny (model X.prog X.w) X.A (noteFrame e X.env) (fun _ s₂ => wpAny (model X.prog X.w) X.A (setFlight e none) (fun _ s₃ =>
    wpAny (model X.prog X.w) X.A (handleBy e X.env (h₀ :: hds)) (SP X pins D) X.xe s₃) X.xe s₂) X.xe s₁) (fun u s' xx => ?_) PassesOwn.looking).run [] s σ H D (I.toTry _) h) (fun f s1 hsp => ?_) (fun e s1 he => he)
  · obtain ⟨a, B, sI, pins', σ', H', cls, d, rfl, J', nb, up, sky, na, os, ag, w⟩ := xx
    have J : Inv X pins σ' H' sI := J'.ofTry ok
    have sky' : Sky B (X.env :: X.outer) a (Zc cls d) X.env.locals s'.heap := by rw [← hs]; exact sky
    show wpAny (model X.prog X.w) X.A (noteFrame (.ref a) X.env) _ _ _
    refine Sky.land Zc.steady hfr hf sky' fun h3 fl3 up3 => ?_
    have J3 : Inv X pins σ' H' { s' with heap := h3 } := J.landed nb fl3.1 (up.trans up3) os ag
    obtain ⟨oe3, vs3, he3, hz3, hd3⟩ := fl3.there
    have nfr : a ∉ frs (X.env :: X.outer) := fun hm => by
      obtain ⟨_, o', e', hnf⟩ := (fl3.2.2.1).mem hm
      rw [he3] at e'; cases e'
      exact hnf _ hd3
    have nL : a ≠ X.env.locals := fun z => nfr (List.mem_filterMap.mpr ⟨X.env, List.mem_cons_self, by rw [hf, z]⟩)
    have nF : a ∉ X.fs := fun hm => by
      obtain ⟨e, he, q⟩ := List.mem_filterMap.mp hm
      exact nfr (List.mem_filterMap.mpr ⟨e, List.mem_cons_of_mem _ he, q⟩)
    have S3 := J3.suite he3 hd3 na nL nF
    have go : ∀ {hds' : List ExceptHandler} {l' : List Cls1}, HdsAs X n hds' l' → wAll X.K i Wout D l' cls d σ' H' →
        wpAny (model X.prog X.w) X.A (handleBy (.ref a) X.env hds') (SP X pins D) X.xe { s' with heap := h3 } := by
      intro hds' l' hk
      induction hk with
      | nil =>
        intro w
        refine wpAny_handleBy_nil ?_
        obtain ⟨k1, k2, k3, oe, vs, T, oT, ts', he, hz, hd, h1, hr⟩ := id fl3
        unfold PySem.passOn
        refine wpAny_bind (wpAny_field he hd h1 ?_)
        rw [if_neg (show ¬ ((Value.ref T == Value.none) = true) from by simp)]
        have fin : wpAny (model X.prog X.w) X.A (setFlight (.ref a) X.env.frame) (fun _ s4 => wpAny (model X.prog X.w) X.A (throw (.ref a) : Sem Flow) (SP X pins D) X.xe s4) X.xe { s' with heap := h3 } := by
          rw [hf]
          refine HandSPX.setFlight_upZ fl3 fun h4 hh4 up4 => wpAny_throw (tk _ _ ?_)
          exact ⟨a, B, sI, pins, σ', H', cls, d, rfl, J, nb, (up.trans up3).trans up4, .inr (.inr (by rw [hs]; exact hh4)), na, os, ag, w⟩
        first
          | exact wpAny_bind (wpAny_pure (wpAny_bind fin))
          | exact wpAny_bind fin
      | @cons x c ts b₀ suite np pos' hds2 l2 hc hsu r ih =>
        intro w
        obtain ⟨b, hb1, hyes, hno⟩ := w
        refine wpAny_handleBy_cons (codeAny_handlers_test ?_) (by intro q; cases q)
        have LT : PySem.W.Looks (model X.prog X.w) h3 (typeOf (.ref a)) cls := fun A Q E s k q => wpAny_typeOf_ref (k _ _ he3) (by rw [hz3.1]; exact q)
        have LM := PySem.W.exm_one (M := model X.prog X.w) (J3.kIn) LT hb1
        have test : ∀ {Q : Value → Shared → Prop} {E : Value → Shared → Prop}, Q c { s' with heap := h3 } → wpAny (model X.prog X.w) (X.A.mark (some (.ref a))) (eval (.Name x np) X.env) Q E { s' with heap := h3 } := fun {Q E} q => by
          obtain ⟨hg, hdbg, hm | ⟨hm, hv, hnn⟩⟩ := hc
          · exact ld_glob (X := X.suite a ((a, oe3) :: (X.pn ++ pins))) S3 hg hm q hdbg
          · exact ld_blt (X := X.suite a ((a, oe3) :: (X.pn ++ pins))) S3 hg hm hv q hnn hdbg
        refine test (LM.here ?_)
        cases b with
        | true =>
          refine codeAny_handlers_suite_as ?_
          refine HandSPX.lands_againZ fl3 fun h4 fl4 up4 => ?_
          have J4 : Inv X pins σ' H' { s' with heap := h4 } := J.landed nb fl4.1 ((up.trans up3).trans up4) os ag
          obtain ⟨oe4, vs4, he4, hz4, hd4⟩ := fl4.there
          have S4 := J4.suite he4 hd4 na nL nF
          refine store_ok (X := X.suite a ((a, oe4) :: (X.pn ++ pins))) (v := .ref a) S4 hN hi hloc rfl (fun s5 S5 => ?_) (.inr hln)
          refine wpAny_mono ((hsu a oe4 cls d (X.pn ++ pins) hz4 ⟨_, hd4⟩).run [] s5 _ H' _ S5 (hyes rfl a na)) (fun f s6 hsp => ?_) (fun _ _ z => False.elim z)
          have end_ : ∀ {σ6 : L2.St} {H6 : Hp} {Q : Shared → Prop}, Inv (X.suite a ((a, oe4) :: (X.pn ++ pins))) [] σ6 H6 s6 → (∀ s7, Inv X pins (σ6.set i none) H6 s7 → Q s7) →
              wpAny (model X.prog X.w) X.A (do bindName X.env n .none; unbindBehindTheSuite X.env n pos') (fun _ s7 => Q s7) X.xe s6 := fun {σ6 H6 Q} S6 hq => gone_ok (S6.unsuite ok) hN hi hln hq
          cases f with
          | next =>
            obtain ⟨σ6, H6, S6, q6⟩ := hsp
            exact end_ S6 fun s7 J7 => ⟨_, _, J7, q6⟩
          | brk =>
            obtain ⟨σ6, H6, S6, q6⟩ := hsp
            exact end_ S6 fun s7 J7 => ⟨_, _, J7, q6⟩
          | cont =>
            obtain ⟨σ6, H6, S6, q6⟩ := hsp
            exact end_ S6 fun s7 J7 => ⟨_, _, J7, q6⟩
          | ret u =>
            obtain ⟨v6, σ6, H6, S6, r6, q6⟩ := hsp
            exact end_ S6 fun s7 J7 => ⟨_, _, _, J7, r6, q6⟩
        | false =>
          show wpAny _ X.A (handleBy (.ref a) X.env hds2) _ _ _
          exact ih (hno rfl)
    exact go hh w
  · cases f with
    | next =>
      obtain ⟨σ', H', J', q⟩ := hsp
      exact wpAny_execs_nil ⟨σ', H', J'.ofTry ok, q⟩
    | brk =>
      obtain ⟨σ', H', J', q⟩ := hsp
      exact ⟨σ', H', J'.ofTry ok, q⟩
    | cont =>
      obtain ⟨σ', H', J', q⟩ := hsp
      exact ⟨σ', H', J'.ofTry ok, q⟩
    | ret u =>
      obtain ⟨v, σ', H', J', r, q⟩ := hsp
      exact ⟨v, σ', H', J'.ofTry ok, r, q⟩
end
end SZ
end
section
/-! SZ, part W: isinstance and fields of the exception that a suite holds; try on data. -/
namespace PySem.W
open PySem PySem.Spec PySem.Calls PyProof.Rows
section
variable {prog : Program} {w : World} {A : Around} {E : Value → Shared → Prop} {s : Shared} {K : Frag} {x D : Addr} {ox : Obj} {od : Option Obj}
theorem sz_findCls (hd : hasDictIn K D = true) (ha : findIn K (.ref D) "__class__" = some (some (.builtin "object.__class__"))) (hn : specialIn K (.builtin "object.__class__") "__get__" = some (some (.builtin "getset_descriptor.__get__"))) (ht : takesIn K (.builtin "object.__class__") = some true) :
    findObj K D od "__class__" = some (.bind (.builtin "getset_descriptor.__get__") (.builtin "object.__class__")) := by
  have hc : (clsIn K D).isSome = true := by obtain ⟨cd, hc, _⟩ := any_some hd; rw [hc]; rfl
  cases od with
  | none => exact findObj_dataN hc ha hn ht
  | some o => exact findObj_data hc ha hn ht
theorem sz_kin {Q : Option Value → Shared → Prop} (hga : findIn K (.ref D) "__getattribute__" = some (some (.builtin "BaseException.__getattribute__"))) (hgt : findIn K (.ref D) "__getattr__" = some none) (hsub : subIn K (.ref D) (.type "BaseException") = some true)
    (hdct : hasDictIn K D = true) (ha : findIn K (.ref D) "__class__" = some (some (.builtin "object.__class__")))
    (hn : specialIn K (.builtin "object.__class__") "__get__" = some (some (.builtin "getset_descriptor.__get__"))) (htk : takesIn K (.builtin "object.__class__") = some true) (hm : mroIn K D (.type "object") = some true)
    (X : K.In s.heap) (I : InstAt s.heap x ox D od) (h : Q (some (.ref D)) { s with toks := s.toks + 1 }) : wpAny (model prog w) A (getAttr? (.ref x) "__class__") Q E s := by
  have hf := sz_findCls (od := od) hdct ha hn htk
  obtain ⟨hp, g, d, t, os⟩ := s
  have L0 := I.type (M := model prog w)
  have L1 := looks_findIn (M := model prog w) X hga
  have L2 := looks_findIn (M := model prog w) X hgt
  have L3 := looks_find (M := model prog w) X I hf
  have sub : Looks (model prog w) hp (isInstance (.ref x) (.type "BaseException")) true := L0.andThen (looks_subIn X hsub)
  have n2 : (Value.builtin "BaseException.__getattribute__" == Value.builtin "object.__getattribute__") = false := by decide +kernel
  have n1 : (onTheHeap (Value.ref D) && Value.builtin "BaseException.__getattribute__" == Value.builtin "object.__getattribute__") = false := by rw [n2]; rfl
  unfold getAttr? getAttrBy? getAttrBy
  refine wpAny_bind (wpAny_mkText (wpAny_bind (wpAny_attempt (wpAny_holding (wpAny_bind (L0.at (wpAny_bind (L1.at ?_))))))))
  show wpAny _ _ (if (onTheHeap (Value.ref D) && Value.builtin "BaseException.__getattribute__" == Value.builtin "object.__getattribute__") = true then _ else _) _ _ _
  rw [n1, if_neg Bool.false_ne_true]
  unfold getAttrByItsOwn hookBefore
  refine wpAny_bind ?_
  rw [if_pos (show onTheHeap (Value.ref D) = true from rfl)]
  refine L2.at ?_
  refine wpAny_bind (wpAny_attempt (wpAny_holding ?_))
  unfold callGetattribute
  rw [show (false && onTheHeap (Value.builtin "BaseException.__getattribute__")) = false from rfl, if_neg Bool.false_ne_true]
  unfold boundAndCalled
  rw [PySem.F.excAttr_ValueError.ga.bind (.ref x)]
  refine wpAny_bind (wpAny_pure ?_)
  show wpAny _ _ (call (.builtin "BaseException.__getattribute__") [.ref x, .str "__class__" t]) _ _ _
  refine wpAny_call (codeAny_call_builtin PySem.F.excAttr_ValueError.ga.plain PySem.F.entry_bexc_ga ?_)
  refine @check_slot (model prog w) _ _ ⟨hp, g, d, t + 1, os⟩ "BaseException.__getattribute__" "BaseException" "__getattribute__" (.ref x) [.str "__class__" t] [] _ (by decide +kernel) (by decide +kernel) sub (PySem.F.args_bexc_ga (.ref x) (.str "__class__" t)) ?_
  unfold Builtin.«object.__getattribute__»
  refine wpAny_bind (wpAny_of_eq (a := ((Value.ref x : Value), [Value.str "__class__" t])) (by first | rfl | (simp only [slotArgs]; rfl)) ?_)
  refine wpAny_bind (wpAny_pure (wpAny_bind (L0.at (wpAny_bind (L3.at ?_)))))
  show wpAny _ _ (holding [Value.builtin "object.__class__"] (call (.builtin "getset_descriptor.__get__") [.builtin "object.__class__", .ref x, .ref D]) >>= ret) _ _ _
  refine wpAny_bind (wpAny_holding (wpAny_call (class_get (s := ⟨hp, g, d, t + 1, os⟩) (ox := ox) (od := od) X I hm ?_)))
  refine wpAny_pure ?_
  show wpAny _ _ (handedOut (.ref D)) _ _ _
  rw [handedOut_of (v := .ref D) rfl]
  first
    | exact wpAny_pure (wpAny_pure h)
    | exact wpAny_pure h
    | exact wpAny_pure (wpAny_bind (wpAny_pure (wpAny_pure h)))
theorem sz_kitx (hga : findIn K (.ref D) "__getattribute__" = some (some (.builtin "BaseException.__getattribute__"))) (hgt : findIn K (.ref D) "__getattr__" = some none) (hsub : subIn K (.ref D) (.type "BaseException") = some true) (hdct : hasDictIn K D = true) (ha : findIn K (.ref D) "__class__" = some (some (.builtin "object.__class__")))
    (hn : specialIn K (.builtin "object.__class__") "__get__" = some (some (.builtin "getset_descriptor.__get__"))) (htk : takesIn K (.builtin "object.__class__") = some true) (hm : mroIn K D (.type "object") = some true) :
    KitX K (.ref x) (.ref D) (fun h => InstAt h x ox D od) where
  ty := fun _ _ _ I => I.type
  it := fun M h X _ => by
    obtain ⟨cdD, hcD, _⟩ := any_some hdct
    unfold clsIn at hcD
    split at hcD
    · rename_i c' d' cd' sl' ho
      intro A' Q' E' s' k q
      unfold isType loadHead
      exact wpAny_bind (wpAny_loadPart (k _ _ (X _ _ ho)) (wpAny_pure q))
    · cases hcD
  ne := (handS_kitx_exc (x := x) (ox := ox) hga hgt hsub hdct ha hn htk hm).ne
  ca := fun X I k => sz_kin hga hgt hsub hdct ha hn htk hm X I k
end
end PySem.W
namespace SZ
open PySem PySem.Spec PyProof.Rows L2
/-- isinstance(e, c) -/
theorem call_isX {X : Cx} {a D : Addr} {oe : Obj} {d : Option Addr} {pn : List (Addr × Obj)} (C : ExcC X.K D) (hz : Zc (.ref D) d oe) (hf : ∃ vs, oe.data = .fields vs) :
    CallR (X.suite a ((a, oe) :: pn)) (.builtin "isinstance") (fun xs H Q => ∃ (c : V) (cv : Value) (b : Bool), xs = [.ref a, c] ∧ (d = none ∨ ∃ dd fs, d = some dd ∧ H dd = some (.xd fs)) ∧ (∀ u, RelV c u → u = cv) ∧ PySem.W.kitOne X.K (.ref D) cv = some b ∧ Q (.bl b) H) := by
  intro pins s σ H xs us Q I r h
  obtain ⟨c, cv, b, rfl, hdd, hcv, e, q⟩ := h
  cases r with
  | cons rx rr =>
    cases rr with
    | cons rt rr =>
      cases rr
      cases rx
      have ec := hcv _ rt
      subst ec
      obtain ⟨hget, _⟩ := I.pin (a, oe) (List.mem_append.mpr (.inl List.mem_cons_self))
      obtain ⟨vs, hv⟩ := hf
      have J : ∃ od, PySem.W.InstAt s.heap a oe D od := by
        rcases hdd with rfl | ⟨dd, fs, rfl, hx⟩
        · exact ⟨none, hget, hz.1, by unfold PySem.W.notCls; rw [hv] <;> rfl, by rw [hz.2]; trivial⟩
        · have hx : ObjOk X.prog X.w H s.heap dd (.xd fs) := I.hok dd _ hx
          obtain ⟨mA, hns, hr⟩ := hx
          obtain ⟨od, ho, hl⟩ := lookIn_ns hns
          exact ⟨some od, hget, hz.1, by unfold PySem.W.notCls; rw [hv] <;> rfl, by rw [hz.2]; exact ho⟩
      obtain ⟨od, J⟩ := J
      exact PySem.W.kia_one (PySem.W.sz_kitx C.hg C.hk C.hs C.hd C.ha C.hn C.ht C.hm) I.kIn J e (fun z => nomatch z) fun tk => ⟨.bl b, H, I.kept (t' := tk) fun _ _ z => z, rfl, q⟩
/-- what a class of exceptions must have for a suite that looks at them -/
structure XcOk (G : Glo) (cp : Addr) (c : Nat) : Prop where
  ok : ∀ C ns, G.cl c = some (C, ns) → ExcC G.K C ∧ PySem.W.kitOne G.K (.ref C) (.ref cp) = some true ∧ (ns ≠ [] → XfC G.K C) ∧ ∀ f ∈ ns, PySem.W.findIn G.K (.ref C) f = some none
theorem XR.same {G : Glo} {H H' : Hp} {ι : List Addr} {c : Nat} {ds : List D} {cls : Value} {dd : Option Addr} (h : XR G H ι c ds cls dd) (s : Same H H') : XR G H' ι c ds cls dd := by
  obtain ⟨C, ns, e1, e2, q⟩ := h
  refine ⟨C, ns, e1, e2, ?_⟩
  rcases q with q | ⟨d, fs, q1, q2, q3, r⟩
  · exact .inl q
  · exact .inr ⟨d, fs, q1, s _ _ q2, q3, DVs.mono (Ext.same s) (List.prefix_refl _) _ _ r⟩
/-- a suite's expression: val tells its value by the exception's fields -/
def rX (G : Glo) (ie : Nat) (a : Addr) (cls : Value) (d : Option Addr) (ok : Nat → Prop) (val : List D → Option D) : TE := fun σ H Q => ∃ δ μ ι c ds r, RS G σ H δ μ ι ∧ σ[ie]? = some (some (.ref a)) ∧ XR G H ι c ds cls d ∧ ok c ∧ val ds = some r ∧ ∀ v H', Same H H' → DV G H' ι r v → Q v H'
def rXs (G : Glo) (ie : Nat) (a : Addr) (cls : Value) (d : Option Addr) (ok : Nat → Prop) (val : List D → Option (List D)) : TA := fun σ H Q => ∃ δ μ ι c ds r, RS G σ H δ μ ι ∧ σ[ie]? = some (some (.ref a)) ∧ XR G H ι c ds cls d ∧ ok c ∧ val ds = some r ∧ ∀ v H', Same H H' → DVs G H' ι r v → Q v H'
theorem Same.trans' {H H1 H2 : Hp} (a : Same H H1) (b : Same H1 H2) : Same H H2 := fun c o e => b c o (a c o e)
section
variable {X : Cx} {G : Glo} {ie : Nat} {ad : Addr} {oe : Obj} {cls : Value} {d : Option Addr} {pn : List (Addr × Obj)} {ok : Nat → Prop} {val : List D → Option D} {vals : List D → Option (List D)} {e v : Expr} {es : List Expr} {pos p : Pos}
theorem px_str {x : Str} {j} : PE (X.suite ad ((ad, oe) :: pn)) (.Constant (.str x) j pos) (rX G ie ad cls d ok fun _ => some (.str x)) :=
  peI pe_str fun σ H Q ⟨δ, μ, ι, c, ds, r, rs, e1, xr, ho, ev, q⟩ => by
    cases ev
    exact q _ H (fun _ _ z => z) rfl
theorem px_fld {f n : Str} (j : Nat) (hz : Zc cls d oe) (hf : ∃ vs, oe.data = .fields vs) (hK : X.K = G.K) {cp : Addr} (hx : ∀ c, ok c → XcOk G cp c ∧ ∀ C ns, G.cl c = some (C, ns) → ns[j]? = some f ∧ ns.Nodup) (hN : X.N[ie]? = some n) (hv : Vis X.env.scope n)
    (hd : (n == ("__debug__" : Str)) = false := by decide) (hcd : (n == ("__classdict__" : Str)) = false := by decide) (hb : attributeBase (.Name n p) f X.env (eval (.Name n p) X.env) = eval (.Name n p) X.env := by rfl) :
    PE (X.suite ad ((ad, oe) :: pn)) (.Attribute (.Name n p) f pos) (rX G ie ad cls d ok fun ds => ds[j]?) := by
  refine ⟨fun pins s σ H Q I ⟨δ, μ, ι, c, ds, r, rs, e1, xr, ho, ev, q⟩ => ?_⟩
  obtain ⟨C, ns, hcl, ec, z⟩ := xr
  obtain ⟨hxc, hns⟩ := hx c ho
  obtain ⟨hj, hnd⟩ := hns C ns hcl
  obtain ⟨_, _, hxf, hno⟩ := hxc.ok C ns hcl
  have hne : ns ≠ [] := fun z => by rw [z] at hj; cases hj
  rcases z with ⟨z, _⟩ | ⟨dd, fs, ed, ea, hfs, dl⟩
  · exact absurd z hne
  · have hc : (X.suite ad ((ad, oe) :: pn)).N[ie]? = some n := hN
    refine (pe_xf (by rw [hK]; exact hxf hne) (by rw [hK]; exact hno f (List.mem_of_getElem? hj)) hz hf (pe_var hc hv hd hcd) hb).run pins s σ H Q I ?_
    obtain ⟨y, hy, dy⟩ := dl.get ev
    have hl : fs.lookup f = some y := by
      have : ∀ {fs : List (Str × V)} {ns : List Str} {j : Nat}, fs.map (·.1) = ns → ns.Nodup → ns[j]? = some f → (fs.map (·.2))[j]? = some y → fs.lookup f = some y := by
        intro fs
        induction fs with
        | nil => intro ns j e1 _ _ e4; simp at e4
        | cons p r ih =>
          intro ns j e1 nd e3 e4
          subst e1
          obtain ⟨g, w⟩ := p
          cases j with
          | zero =>
            simp at e3 e4
            subst e3 e4
            simp [List.lookup_cons]
          | succ j =>
            simp only [List.map_cons, List.nodup_cons] at nd
            simp only [List.map_cons, List.getElem?_cons_succ] at e3 e4
            have hne : (f == g) = false := by
              have : f ≠ g := fun z => nd.1 (z ▸ List.mem_of_getElem? e3)
              simpa using this
            rw [List.lookup_cons, hne]
            exact ih rfl nd.2 e3 e4
      exact this hfs hnd hj hy
    exact ⟨.ref ad, e1, rfl, ec, dd, fs, y, ed, ea, hl, q y H (fun _ _ z => z) dy⟩
@[simp] def vCons (val : List D → Option D) (vals : List D → Option (List D)) : List D → Option (List D) := fun ds => (val ds).bind fun a => (vals ds).map (a :: ·)
@[simp] def vLst (vals : List D → Option (List D)) : List D → Option D := fun ds => (vals ds).bind fun l => if l.length ≤ sizeLine then some (.lst l) else none
theorem pxa_nil : PA (X.suite ad ((ad, oe) :: pn)) [] (rXs G ie ad cls d ok fun _ => some []) :=
  paI pa_nil fun σ H Q ⟨δ, μ, ι, c, ds, r, rs, e1, xr, ho, ev, q⟩ => by
    cases ev
    exact q _ H (fun _ _ z => z) rfl
theorem pxa_cons (h : PE (X.suite ad ((ad, oe) :: pn)) e (rX G ie ad cls d ok val)) (t : PA (X.suite ad ((ad, oe) :: pn)) es (rXs G ie ad cls d ok vals)) (hs : starEach (e :: es) X.env = (false, eval e X.env) :: starEach es X.env := by rfl) :
    PA (X.suite ad ((ad, oe) :: pn)) (e :: es) (rXs G ie ad cls d ok (vCons val vals)) :=
  paI (pa_cons h t hs) fun σ H Q ⟨δ, μ, ι, c, ds, r, rs, e1, xr, ho, ev, q⟩ => by
    unfold vCons at ev
    obtain ⟨a, h1, ev⟩ := Option.bind_eq_some_iff.mp ev
    obtain ⟨l, h2, ev⟩ := Option.map_eq_some_iff.mp ev
    subst ev
    refine ⟨δ, μ, ι, c, ds, a, rs, e1, xr, ho, h1, fun v H1 s1 dv => ⟨δ, μ, ι, c, ds, l, rs.same s1, e1, xr.same s1, ho, h2, fun vs H2 s2 dvs => q _ H2 (Same.trans' s1 s2) ⟨v, vs, rfl, DV.mono (Ext.same s2) (List.prefix_refl _) _ _ dv, dvs⟩⟩⟩
theorem px_lst (h : PA (X.suite ad ((ad, oe) :: pn)) es (rXs G ie ad cls d ok vals)) : PE (X.suite ad ((ad, oe) :: pn)) (.List es pos) (rX G ie ad cls d ok (vLst vals)) :=
  peI (pe_frz (pe_lst h)) fun σ H Q ⟨δ, μ, ι, c, ds, r, rs, e1, xr, ho, ev, q⟩ => by
    unfold vLst at ev
    obtain ⟨l, h2, ev⟩ := Option.bind_eq_some_iff.mp ev
    · by_cases hl : l.length ≤ sizeLine
      · rw [if_pos hl] at ev
        cases ev
        refine ⟨δ, μ, ι, c, ds, l, rs, e1, xr, ho, h2, fun vs H1 s1 dvs => ⟨by rw [← dvs.length]; exact hl, fun p hp => .inl ⟨p, .lst vs, rfl, upd_same, trivial, fun o => ?_⟩⟩⟩
        rw [upd_upd]
        exact q _ _ (Same.trans' s1 (Same.upd_free hp)) ⟨p, vs, rfl, .inl ⟨o, upd_same⟩, DVs.mono (Ext.upd_free hp) (List.prefix_refl _) _ _ dvs⟩
      · rw [if_neg hl] at ev; cases ev
theorem pe_nvr {X : Cx} {e : Expr} : PE X e (fun _ _ _ => False) := ⟨fun _ _ _ _ _ _ z => False.elim z⟩
/-- x = v if isinstance(e, P) else another, all on one suite -/
theorem px_suite {x n P : Str} {another : Expr} {it : Nat} {px pe1 pe2 pe3 q1 q2 q3 : Pos} {cp : Addr} (hz : Zc cls d oe) (hf : ∃ vs, oe.data = .fields vs) (hK : X.K = G.K) (hM : X.mg = G.mg) (nd : X.N.Nodup) (hx : ∀ c, ok c → XcOk G cp c) (hp : G.mg P = some (.ref cp)) (hi : G.mg "isinstance" = none)
    (hv : PE (X.suite ad ((ad, oe) :: pn)) v (rX G ie ad cls d ok val)) (hN : X.N[ie]? = some n) (hvis : Vis X.env.scope n) (hit : X.N[it]? = some x) (hxl : Loc X.env.scope x) (hgi : Gl X "isinstance") (hgP : Gl X P)
    (hfx : X.fn x = true ∨ X.env.scope.names.lookup x = some .local) (hd : (n == ("__debug__" : Str)) = false := by decide) (hcd : (n == ("__classdict__" : Str)) = false := by decide) (hdP : (P == ("__debug__" : Str)) = false := by decide)
    (he1 : starEach [.Name n pe1, .Name P pe2] X.env = (false, eval (.Name n pe1) X.env) :: starEach [.Name P pe2] X.env := by rfl) (he2 : starEach [.Name P pe2] X.env = (false, eval (.Name P pe2) X.env) :: starEach [] X.env := by rfl) (hpl : (backTo q2 (starEach [.Name P pe2] X.env)).any (·.1) = false := by rfl)
    (hsw : swapsWith (.IfExp (.Call (.Name "isinstance" q1) [.Name n pe1, .Name P pe2] [] q2) v another q3) (some (.Name x px)) pos.line X.env = pure false := by rfl)
    (ht : ∀ whole, isTrue (.Call (.Name "isinstance" q1) [.Name n pe1, .Name P pe2] [] q2) X.env whole = (do let v ← whole; standAt (Expr.Call (.Name "isinstance" q1) [.Name n pe1, .Name P pe2] [] q2).pos; holding [v] (truthy v)) := by intro _; rfl) :
    PSs (X.suite ad ((ad, oe) :: pn)) [.Assign [.Name x px] (.IfExp (.Call (.Name "isinstance" q1) [.Name n pe1, .Name P pe2] [] q2) v another q3) pos]
      (fun D σ H => ∃ δ μ ι c ds r, RS G σ H δ μ ι ∧ σ[ie]? = some (some (.ref ad)) ∧ XR G H ι c ds cls d ∧ ok c ∧ val ds = some r ∧ ∀ w H', Same H H' → DV G H' ι r w → D.nx (σ.set it (some w)) H') := by
  refine ⟨fun pins s σ H DD I ⟨δ, μ, ι, c, ds, r, rs, e1, xr, ho, ev, q⟩ => ?_⟩
  obtain ⟨C, ns, hcl, ec, z⟩ := id xr
  subst ec
  obtain ⟨hex, hk, _⟩ := (hx c ho).ok C ns hcl
  have hdd : d = none ∨ ∃ dd fs, d = some dd ∧ H dd = some (.xd fs) := by
    rcases z with ⟨_, _, z⟩ | ⟨dd, fs, z1, z2, _⟩
    · exact .inl z
    · exact .inr ⟨dd, fs, z1, z2⟩
  have hc : (X.suite ad ((ad, oe) :: pn)).N[ie]? = some n := hN
  have tst : PE (X.suite ad ((ad, oe) :: pn)) (.Call (.Name "isinstance" q1) [.Name n pe1, .Name P pe2] [] q2) _ :=
    pe_callB (X := X.suite ad ((ad, oe) :: pn)) (call_isX (by rw [hK]; exact hex) hz hf) hgi (by show X.mg _ = _; rw [hM]; exact hi) PyProof.Rows.boot_isinstance (pa_cons (pe_var hc hvis hd hcd) (pa_cons (pe_glob (v := .ref cp) hgP (by show X.mg _ = _; rw [hM]; exact hp) rfl hdP) pa_nil he2) he1) (by decide) (by decide) he1 hpl
  refine (pss_one (ps_set (X := X.suite ad ((ad, oe) :: pn)) nd hit hxl (pe_ifExp (pt_val tst ht) hv pe_nvr) hsw hfx)).run pins s σ H DD I ?_
  refine ⟨.ref ad, e1, .ref cp, .ref cp, true, rfl, hdd, fun u h => h, by rw [hK]; exact hk, true, rfl, ?_⟩
  show rX G ie ad (.ref C) (_ : Option Addr) ok val σ H _
  exact ⟨δ, μ, ι, c, ds, r, rs, e1, xr, ho, ev, q⟩
end
/-! ### try on data -/
/-- a clause: the exceptions that it takes, the value that its suite sets -/
abbrev Hd := List Nat × (List D → Option D)
def hdl (it ie : Nat) (c : Nat) (ds : List D) (δ : Sl) (μ : MH) : List Hd → SR
  | [] => .ex c ds δ μ
  | (t, f) :: r => if c ∈ t then match f ds with
      | some v => .nx ((δ.set it (some v)).set ie none) μ
      | none => .no
    else hdl it ie c ds δ μ r
@[simp] def sTry (it ie : Nat) (all : List Nat) (body : SF) (hs : List Hd) : SF := fun δ μ => match body δ μ with
  | .ex c ds δ μ => if c ∈ all ∧ ie < δ.length then hdl it ie c ds δ μ hs else .no
  | r => r
/-- the class at x takes the exceptions numbered t among all -/
structure TkOk (G : Glo) (all : List Nat) (x : Str) (t : List Nat) : Prop where
  ex : ∃ C, G.mg x = some (.ref C) ∧ ∀ c ∈ all, ∀ D ns, G.cl c = some (D, ns) → PySem.W.exmOne G.K (.ref D) (.ref C) = some (decide (c ∈ t))
theorem RS.del {G : Glo} {σ : L2.St} {H : Hp} {δ : Sl} {μ : MH} {ι : List Addr} (rs : RS G σ H δ μ ι) (i : Nat) (x : Option V) : RS G (σ.set i x) H (δ.set i none) μ ι := by
  refine ⟨rs.hs, by rw [List.length_set, List.length_set, rs.ln], fun j d e => ?_⟩
  by_cases q : i = j
  · subst q
    by_cases hl : i < δ.length
    · rw [List.getElem?_set_self hl] at e; cases e
    · rw [List.getElem?_eq_none (by rw [List.length_set]; omega)] at e; cases e
  · rw [List.getElem?_set_ne q] at e
    obtain ⟨w, e1, r⟩ := rs.sl j d e
    exact ⟨w, by rw [List.getElem?_set_ne q]; exact e1, r⟩
/-- the clauses do as told -/
inductive HdOk (X : Cx) (G : Glo) (n : Str) (ie it : Nat) (cp : Addr) (all : List Nat) : List ExceptHandler → List Hd → Prop
  | nil : HdOk X G n ie it cp all [] []
  | cons {x : Str} {t : List Nat} {f : List D → Option D} {b₀ : Stmt} {np pos' : Pos} {hds : List ExceptHandler} {l : List Hd} (T : TkOk G all x t) (hg : Gl X x) (hdb : (x == ("__debug__" : Str)) = false)
      (hsu : ∀ (a : Addr) (oe : Obj) (cls : Value) (d : Option Addr) (pn : List (Addr × Obj)), Zc cls d oe → (∃ vs, oe.data = .fields vs) → PSs (X.suite a ((a, oe) :: pn)) [b₀]
        (fun D σ H => ∃ δ μ ι c ds r, RS G σ H δ μ ι ∧ σ[ie]? = some (some (.ref a)) ∧ XR G H ι c ds cls d ∧ (c ∈ t ∧ c ∈ all) ∧ f ds = some r ∧ ∀ w H', Same H H' → DV G H' ι r w → D.nx (σ.set it (some w)) H')) (r : HdOk X G n ie it cp all hds l) :
      HdOk X G n ie it cp all (.ExceptHandler (some (.Name x np)) (some n) [b₀] pos' :: hds) ((t, f) :: l)
section
variable {k : Nat} {X : Cx} {G : Glo} {W : WX} {ie it : Nat} {cp : Addr} {all : List Nat} {n : Str} {hds : List ExceptHandler} {h₀ : ExceptHandler} {l : List Hd} {body : List Stmt} {fb : SF} {pos : Pos}
theorem hd_walk (hM : X.mg = G.mg) (hK : X.K = G.K) (h : HdOk X G n ie it cp all hds l) : ∃ cs : List Cls1, HdsAs X n hds cs ∧ ∀ (D : Ends) (σ : L2.St) (H : Hp) (δ : Sl) (μ : MH) (ι : List Addr) (c : Nat) (ds : List SZ.D) (cls : Value) (d : Option Addr), ie < σ.length → it ≠ ie → RS G σ H δ μ ι → XR G H ι c ds cls d → c ∈ all →
    SRR G W D H ι (hdl it ie c ds δ μ l) → wAll X.K ie W D cs cls d σ H := by
  induction h with
  | nil => exact ⟨[], .nil, fun D σ H δ μ ι c ds cls d _ _ rs xr _ q => q cls d σ H ι .refl (List.prefix_refl _) rs xr⟩
  | @cons x t f b₀ np pos' hds l T hg hdb hsu r ih =>
    obtain ⟨cs, h1, h2⟩ := ih
    obtain ⟨C, hm, hex⟩ := T.ex
    refine ⟨(.ref C, _) :: cs, .cons ⟨hg, hdb, .inl (by rw [hM]; exact hm)⟩ hsu h1, fun D σ H δ μ ι c ds cls d hlt hne rs xr hc q => ?_⟩
    obtain ⟨C', ns, hcl, ec, z⟩ := id xr
    subst ec
    refine ⟨decide (c ∈ t), by rw [hK]; exact hex c hc C' ns hcl, fun hb a na => ?_, fun hb => ?_⟩
    · have hct : c ∈ t := of_decide_eq_true hb
      unfold hdl at q
      rw [if_pos hct] at q
      cases ef : f ds with
      | none => simp only [ef] at q; exact q.elim
      | some v =>
        simp only [ef] at q
        refine ⟨δ.set ie none, μ, ι, c, ds, v, rs.del ie _, List.getElem?_set_self hlt, xr, ⟨hct, hc⟩, ef, fun w H' s dw => ?_⟩
        refine q _ H' ι (Ext.same s) (List.prefix_refl _) ?_
        have r1 : RS G (((σ.set ie (some (.ref a))).set it (some w)).set ie none) H' (((δ.set ie none).set it (some v)).set ie none) μ ι := (((rs.del ie _).same s).set it dw).del ie none
        have e1 : ((δ.set ie none).set it (some v)).set ie none = (δ.set it (some v)).set ie none := by
          rw [List.set_comm _ _ (Ne.symm hne), List.set_set]
        rw [e1] at r1
        exact r1
    · have hct : c ∉ t := of_decide_eq_false hb
      unfold hdl at q
      rw [if_neg hct] at q
      exact h2 D σ H δ μ ι c ds (.ref C') d hlt hne rs xr hc q
theorem ds_try (hb : ∀ (W' : WX) (pn : List (Addr × Obj)) (xe : Value → Shared → Prop), DSs k (X.tr pn xe) G W' body fb) (hh : HdOk X G n ie it cp all (h₀ :: hds) l) (hi : X.N[ie]? = some n := by rfl) (hne : it ≠ ie := by decide) (hln : X.env.kindOf n = some .local := by rfl)
    (hs : X.stack = X.env :: X.outer := by rfl) (hf : X.env.frame = some X.env.locals := by rfl) : DS k X G W (.Try body (h₀ :: hds) [] [] pos) (sTry it ie all fb l) := fun cc => by
  obtain ⟨cs, h1, h2⟩ := hd_walk (W := W) cc.hm cc.hK hh
  refine psI (ps_try_all (tb := fun W' => rS G W' fb) hs hf cc.nd hi hln cc.tk (fun W' pn xe tk po => hb W' pn xe ⟨cc.hP, cc.hw, cc.hK, cc.hm, cc.calm, cc.room, cc.nd, tk, po, cc.xa⟩) h1) fun D σ H ⟨δ, μ, ι, rs, q⟩ => ⟨δ, μ, ι, rs, ?_⟩
  unfold sTry at q
  revert q
  cases fb δ μ with
  | nx δ' μ' => exact fun q => q
  | rt d μ' => exact fun q => q
  | bk δ' μ' => exact fun q => q
  | ct δ' μ' => exact fun q => q
  | no => exact fun q => q
  | ex c ds δ' μ' =>
    intro q cls dd σ' H' ι' x p rs' xr
    simp only at q
    by_cases hc : c ∈ all ∧ ie < δ'.length
    · rw [if_pos hc] at q
      exact h2 D σ' H' δ' μ' ι' c ds cls dd (by rw [← rs'.ln]; exact hc.2) hne rs' xr hc.1 (SRR.at_ q x p)
    · rw [if_neg hc] at q; exact q.elim
end
end SZ
end
section
/-! SZ, part X: own ==, isinstance of an own class, sorted(set(..)), displays of dicts. -/
namespace SZ
open PySem PySem.Spec PyProof.Rows L2
/-! ### sorted(set(t)), t a tuple of ints -/
def insD (a : Int) : List Int → List Int
  | [] => [a]
  | b :: l => if a < b then a :: b :: l else if a = b then b :: l else b :: insD a l
def sdI : List Int → List Int
  | [] => []
  | a :: l => insD a (sdI l)
theorem insD_mem {a k : Int} : ∀ {l : List Int}, k ∈ insD a l ↔ k = a ∨ k ∈ l
  | [] => by simp [insD]
  | b :: l => by
    unfold insD
    by_cases h : a < b
    · rw [if_pos h]; simp
    · rw [if_neg h]
      by_cases h2 : a = b
      · rw [if_pos h2]; subst h2; simp
      · rw [if_neg h2]
        simp only [List.mem_cons, insD_mem (l := l)]
        constructor
        · rintro (h | h | h) <;> simp [h]
        · rintro (h | h | h) <;> simp [h]
theorem insD_lt {a : Int} : ∀ {l : List Int}, l.Pairwise (· < ·) → (insD a l).Pairwise (· < ·)
  | [], _ => by simp [insD]
  | b :: l, h => by
    obtain ⟨h1, h2⟩ := List.pairwise_cons.mp h
    unfold insD
    by_cases q : a < b
    · rw [if_pos q]
      refine List.pairwise_cons.mpr ⟨fun x hx => ?_, h⟩
      rcases List.mem_cons.mp hx with rfl | hx
      · exact q
      · have := h1 x hx; omega
    · rw [if_neg q]
      by_cases q2 : a = b
      · rw [if_pos q2]; exact h
      · rw [if_neg q2]
        refine List.pairwise_cons.mpr ⟨fun x hx => ?_, insD_lt h2⟩
        rcases insD_mem.mp hx with rfl | hx
        · omega
        · exact h1 x hx
theorem sdI_mem {k : Int} : ∀ {l : List Int}, k ∈ sdI l ↔ k ∈ l
  | [] => Iff.rfl
  | a :: l => by
    show k ∈ insD a (sdI l) ↔ _
    rw [insD_mem, sdI_mem (l := l)]
    simp
theorem sdI_lt : ∀ {l : List Int}, (sdI l).Pairwise (· < ·)
  | [] => List.Pairwise.nil
  | _ :: l => insD_lt (sdI_lt (l := l))
theorem lt_uniq : ∀ {a b : List Int}, a.Pairwise (· < ·) → b.Pairwise (· < ·) → (∀ k, k ∈ a ↔ k ∈ b) → a = b
  | [], [], _, _, _ => rfl
  | [], y :: b, _, _, h => by have := (h y).mpr (by simp); cases this
  | x :: a, [], _, _, h => by have := (h x).mp (by simp); cases this
  | x :: a, y :: b, ha, hb, h => by
    obtain ⟨a1, a2⟩ := List.pairwise_cons.mp ha
    obtain ⟨b1, b2⟩ := List.pairwise_cons.mp hb
    have e : x = y := by
      rcases List.mem_cons.mp ((h x).mp (by simp)) with e | e
      · exact e
      · rcases List.mem_cons.mp ((h y).mpr (by simp)) with e2 | e2
        · exact e2.symm
        · have := b1 x e; have := a1 y e2; omega
    subst e
    rw [lt_uniq a2 b2 fun k => ?_]
    constructor
    · intro hk
      rcases List.mem_cons.mp ((h k).mp (List.mem_cons_of_mem _ hk)) with e | e
      · have := a1 k hk; omega
      · exact e
    · intro hk
      rcases List.mem_cons.mp ((h k).mpr (List.mem_cons_of_mem _ hk)) with e | e
      · have := b1 k hk; omega
      · exact e
section
variable {k : Nat} {X : Cx} {G : Glo} {W : WX} {a b c o : Expr} {fa fb fc fe fo : EF} {ta tb ft : TF} {pos p apos p1 p2 : Pos} {es : List Expr} {fs : AF} {ct : CT}
theorem call_setT (hc : X.calm = true) : CallR X (.type "set") (fun vs H Q => ∃ (ad : Addr) (ns : List Int), vs = [.ref ad] ∧ SqT X.K H ad (ns.map V.int) ∧ ns.length < 60 ∧ ∀ p c, H p = none → c ≤ ns.length → Q (.ref p) (upd H p (SetO X.w p (fun j => decide (j ∈ ns)) c))) := by
  intro pins s σ H vs us Q I r h
  obtain ⟨ad, ns, rfl, hT, hl, q⟩ := h
  rw [Vals.ref1 r]
  obtain ⟨its, rv, pt, hz⟩ := I.tuple hT
  have hi : IntsAre its.toArray.toList ns := by simpa using rv.ints
  refine call_set_tupI ns (I.ok.hd hc) (show s.heap.IsTuple ad its.toArray from pt) hi (by unfold scanBound; omega) fun h' tk c R hcn kp => ?_
  exact ⟨.ref s.heap.objs.size, _, I.laid (t' := tk) (o := SetO X.w s.heap.objs.size (fun j => decide (j ∈ ns)) c) kp (Nat.le_refl _) (setO_new R), rfl, q _ c (I.hok.fresh (Nat.le_refl _)) hcn⟩
@[simp] def eSoSet (fa : EF) : EF := fun δ μ => (fa δ μ).bind fun d μ => match d with
  | .tup l => match intsOf l with
    | some ns => if ns.length < 60 then .ok (.lst ((sdI ns).map D.int)) μ else .no
    | none => .no
  | _ => .no
theorem ints_dvs {H : Hp} {ι : List Addr} : ∀ (ns : List Int), DVs G H ι (ns.map D.int) (ns.map V.int)
  | [] => rfl
  | n :: ns => ⟨_, _, rfl, rfl, ints_dvs ns⟩
theorem de_soset (ha : DE k X G W a fa) (h1 : G.mg "sorted" = none) (h2 : G.mg "set" = none) (g1 : Gl X "sorted" := by rfl) (g2 : Gl X "set" := by rfl)
    (he : starEach [a] X.env = (false, eval a X.env) :: starEach [] X.env := by rfl)
    (he2 : starEach [.Call (.Name "set" p) [a] [] p1] X.env = (false, eval (.Call (.Name "set" p) [a] [] p1) X.env) :: starEach [] X.env := by rfl) :
    DE k X G W (.Call (.Name "sorted" p2) [.Call (.Name "set" p) [a] [] p1] [] pos) (eSoSet fa) := fun cc => by
  have hset := pe_callTy (call_setT (X := X) cc.calm) g2 (by rw [cc.hm]; exact h2) PyProof.Rows.boot_set (pa_cons (ha cc) pa_nil he) (pos := p1) (p := p) (by decide) (by decide) he (by rfl)
  have hso := pe_callB (cr_sortedSet (X := X) cc.calm) g1 (by rw [cc.hm]; exact h1) PyProof.Rows.boot_sorted (pa_cons hset pa_nil he2) (pos := pos) (p := p2) (by decide) (by decide) he2 (by rfl)
  refine peI (pe_frz hso) fun σ H Q ⟨δ, μ, ι, rs, q⟩ => ⟨δ, μ, ι, rs, RR.bnd q fun d μ1 v H1 ι1 x1 p1 rs1 dx q => ?_⟩
  split at q
  · rename_i l
    obtain ⟨ad, vs, rfl, sq, dl⟩ := dx
    cases hn : intsOf l with
    | none => rw [hn] at q; exact q.elim
    | some ns =>
      rw [hn] at q
      simp only at q
      by_cases hl : ns.length < 60
      · rw [if_pos hl] at q
        rw [ints_view hn dl] at sq
        refine ⟨ad, ns, rfl, by rw [cc.hK]; exact sq, hl, fun pp c hp hcn => ⟨pp, _, c, rfl, upd_same, by omega, fun ms p3 h1 h2 h3 hp3 => ?_⟩⟩
        have e : ms = sdI ns := lt_uniq h1 sdI_lt fun j => by rw [h2 j, sdI_mem]; simp
        subst e
        have s1 : Same H1 (upd H1 pp (SetO X.w pp (fun j => decide (j ∈ ns)) c)) := Same.upd_free hp
        exact (RR.at_ q (Ext.same s1) (List.prefix_refl _)).newL (rs1.same s1) hp3 (ints_dvs _)
      · rw [if_neg hl] at q; exact q.elim
  · exact q.elim
/-! ### isinstance(x, C), C an ordinary class of the text -/
structure IsOk (G : Glo) (x : Str) (c : Nat) : Prop where
  ex : ∃ C ns, G.mg x = some (.ref C) ∧ G.cl c = some (C, ns) ∧ Cls G.K C ∧ PySem.W.findIn G.K (.ref C) "__class__" = some (some (.builtin "object.__class__")) ∧
    PySem.W.specialIn G.K (.builtin "object.__class__") "__get__" = some (some (.builtin "getset_descriptor.__get__")) ∧ PySem.W.takesIn G.K (.builtin "object.__class__") = some true ∧ PySem.W.mroIn G.K C (.type "object") = some true ∧
    ∀ t ∈ ["NoneType", "bool", "int", "str", "tuple", "list", "dict"], PySem.W.kitOne G.K (.type t) (.ref C) = some false
@[simp] def isO (c : Nat) (d : D) (μ : MH) : R D := match tyN μ d with
  | some _ => .ok (.bl false) μ
  | none => match d with
    | .obj c' _ => if c' = c then .ok (.bl true) μ else .no
    | _ => .no
@[simp] def eIsO (c : Nat) (fa : EF) : EF := fun δ μ => (fa δ μ).bind fun d μ => isO c d μ
theorem call_isO (cc : CC k X G W) {x : Str} {c : Nat} (T : IsOk G x c) {C : Addr} (hm : G.mg x = some (.ref C)) : CallR X (.builtin "isinstance") (fun vs H Q => ∃ σ δ μ ι d v, vs = [v, .ref C] ∧ RS G σ H δ μ ι ∧ DV G H ι d v ∧ RR G W σ δ (DV G) H ι (isO c d μ) Q) := by
  obtain ⟨C', ns, h1, h2, h3, h4, h5, h6, h7, h8⟩ := T.ex
  rw [hm] at h1; cases h1
  intro pins s σ0 H vs us Q I r ⟨σ, δ, μ, ι, d, v, ev, rs, dv, q⟩
  subst ev
  unfold isO at q
  cases e : tyN μ d with
  | some t =>
    rw [e] at q
    obtain ⟨t1, t2⟩ := tyx_of rs dv e
    exact call_isi pins s σ0 H _ us Q I r ⟨v, .ref C, .type t, .ref C, false, rfl, .own C, by rw [cc.hK]; exact t1, by rw [cc.hK]; exact h8 t t2, q.now rs rfl⟩
  | none =>
    rw [e] at q
    simp only at q
    split at q
    · rename_i c' vs'
      by_cases hc : c' = c
      · rw [if_pos hc] at q
        subst hc
        obtain ⟨ad, o, C2, dx, gs, ns2, rfl, hH, hcl, hn, dl⟩ := dv
        rw [h2] at hcl; cases hcl
        obtain ⟨u1, u2, rfl, r1, r2⟩ := vals2 r
        obtain rfl : u1 = Value.ref ad := r1
        obtain rfl : u2 = Value.ref C := r2
        obtain ⟨mA, O, _⟩ := ins_getR I (.inr ⟨o, hH⟩)
        obtain ⟨od, J, _⟩ := O.look
        have kit := PySem.W.kitx_own (x := ad) (ox := PySem.W.instObj C dx) (od := od) (K := X.K) (D := C) (by rw [cc.hK]; exact h3.get _) (by rw [cc.hK]; exact h3.hd) (by rw [cc.hK]; exact h4) (by rw [cc.hK]; exact h5) (by rw [cc.hK]; exact h6) (by rw [cc.hK]; exact h7)
        exact PySem.W.kia_one kit I.kIn J (by unfold PySem.W.kitOne; rw [if_pos (by simp)]) (fun z => nomatch z) fun tk => ⟨.bl true, H, I.tok tk, rfl, q.now rs rfl⟩
      · rw [if_neg hc] at q; exact q.elim
    · exact q.elim
theorem de_isO {x : Str} {c : Nat} {q : Pos} (ha : DE k X G W a fa) (T : IsOk G x c) (hi : G.mg "isinstance" = none) (hgi : Gl X "isinstance" := by rfl) (hg : Gl X x := by rfl)
    (hd : (x == ("__debug__" : Str)) = false := by decide)
    (he1 : starEach [a, .Name x p2] X.env = (false, eval a X.env) :: starEach [.Name x p2] X.env := by rfl) (he2 : starEach [.Name x p2] X.env = (false, eval (.Name x p2) X.env) :: starEach [] X.env := by rfl) (hpl : (backTo pos (starEach [.Name x p2] X.env)).any (·.1) = false := by rfl) :
    DE k X G W (.Call (.Name "isinstance" q) [a, .Name x p2] [] pos) (eIsO c fa) := fun cc => by
  obtain ⟨C, ns, h1, _⟩ := T.ex
  exact peI (pe_callB (call_isO cc T h1) hgi (by rw [cc.hm]; exact hi) PyProof.Rows.boot_isinstance (pa_cons (ha cc) (pa_cons (pe_glob (v := .ref C) hg (by rw [cc.hm]; exact h1) rfl hd) pa_nil he2) he1) (by decide) (by decide) he1 hpl) fun σ H Q ⟨δ, μ, ι, rs, q⟩ =>
    ⟨δ, μ, ι, rs, RR.bnd q fun d μ1 v H1 ι1 x1 p1 rs1 dx q => ⟨σ, δ, μ1, ι1, d, v, rfl, rs1, dx, q⟩⟩
end
end SZ
end
section
/-! SZ, part Y: dict displays with texts as keys. -/
namespace SZ
open PySem PySem.Spec PyProof.Rows L2
theorem any_key_false {κ : Type} [DecidableEq κ] {key : κ} : ∀ {acc : List (κ × V)}, key ∉ acc.map (·.1) → (acc.any fun kv => decide (kv.1 = key)) = false
  | [], _ => rfl
  | p :: r, h => by
    rw [List.any_cons, any_key_false (fun z => h (List.mem_cons_of_mem _ z))]
    have : ¬ p.1 = key := fun z => h (by rw [← z]; exact List.mem_cons_self ..)
    simp [this]
theorem mergeK_nodup : ∀ {more acc : List (Key × V)}, ((acc ++ more).map (·.1)).Nodup → mergeK acc more = acc ++ more
  | [], acc, _ => by simp [mergeK]
  | p :: r, acc, h => by
    have hp : p.1 ∉ acc.map (·.1) := by
      rw [List.map_append, List.map_cons] at h
      intro z
      exact (List.nodup_append.mp h).2.2 _ z _ (List.mem_cons_self ..) rfl
    have e : putK acc p.1 p.2 = acc ++ [p] := by
      unfold putK
      rw [any_key_false hp]
      rfl
    show mergeK (putK acc p.1 p.2) r = _
    rw [e, mergeK_nodup (by rw [List.append_assoc]; exact h), List.append_assoc]
    rfl
section
variable {k : Nat} {X : Cx} {G : Glo} {W : WX} {a b c o v : Expr} {fa fb fc fe fo : EF} {ta tb ft : TF} {pos p apos : Pos} {es : List Expr} {fs : AF} {xs : List Str} {keys : List (Option Expr)} {values : List Expr}
def txs (xs : List Str) (vs : List V) : List (V × V) := (xs.zip vs).map fun p => (.str p.1, p.2)
def rP (G : Glo) (W : WX) (xs : List Str) (f : AF) (σ : L2.St) (H : Hp) (Q : List (V × V) → Hp → Prop) : Prop :=
  ∃ δ μ ι, RS G σ H δ μ ι ∧ RR G W σ δ (DVs G) H ι (f δ μ) fun vs H' => Q (txs xs vs) H'
structure DP (X : Cx) (G : Glo) (W : WX) (pos : Pos) (keys : List (Option Expr)) (values : List Expr) (xs : List Str) (f : AF) : Prop where
  ex : ∃ trs, PPs X pos keys values trs ∧ ∀ σ H Q, rP G W xs f σ H Q → tPairs trs σ H Q
def DPs (k : Nat) (X : Cx) (G : Glo) (W : WX) (pos : Pos) (keys : List (Option Expr)) (values : List Expr) (xs : List Str) (f : AF) : Prop := CC k X G W → DP X G W pos keys values xs f
theorem dp_nil : DPs k X G W pos [] [] [] aNil := fun _ => ⟨[], pps_nil, fun σ H Q ⟨δ, μ, ι, rs, q⟩ => q [] H ι .refl (List.prefix_refl _) rs rfl⟩
theorem dp_cons {x : Str} {j kp} (hv : DE k X G W v fa) (t : DPs k X G W pos keys values xs fs) : DPs k X G W pos (some (.Constant (.str x) j kp) :: keys) (v :: values) (x :: xs) (aCons fa fs) := fun cc => by
  obtain ⟨trs, h1, h2⟩ := (t cc).ex
  refine ⟨_, pps_cons pe_str (hv cc) h1, fun σ H Q ⟨δ, μ, ι, rs, q⟩ => ?_⟩
  refine ⟨δ, μ, ι, rs, RR.bnd q fun d μ1 y H1 ι1 x1 p1 rs1 dx q => h2 _ _ _ ⟨δ, μ1, ι1, rs1, RR.bnd q fun l μ2 vs H2 ι2 x2 p2 rs2 dl q => ?_⟩⟩
  exact q.now rs2 (DVs.cons (DV.mono x2 p2 _ _ dx) dl)
@[simp] def dspEnd (n : Nat) (xs : List Str) (l : List D) (μ : MH) : R D := match μ[n]? with
  | some (some (.dic false [] [])) => if l.length = xs.length ∧ xs.length ≤ 15 then .ok (.dic false (xs.map .str) l) (μ.set n none) else .no
  | _ => .no
@[simp] def eDsp (xs : List Str) (g : AF) : EF := fun δ μ => trunc μ ((g δ (μ ++ [some (.dic false [] [])])).bind fun l μ1 => dspEnd μ.length xs l μ1)
/-- the entries -/
def kvsOf (xs : List Str) (vs : List V) : List (Key × V) := (xs.zip vs).map fun p => (.inr p.1, p.2)
theorem txs_kvs (xs : List Str) (vs : List V) : txs xs vs = (kvsOf xs vs).map fun kv => (kV kv.1, kv.2) := by
  simp [txs, kvsOf, kV]
theorem kvs_vals : ∀ {xs : List Str} {vs : List V}, xs.length = vs.length → (kvsOf xs vs).map (·.2) = vs
  | [], [], _ => rfl
  | x :: xs, v :: vs, h => by
    have := kvs_vals (xs := xs) (vs := vs) (by simpa using h)
    simp only [kvsOf, List.zip_cons_cons, List.map_cons, List.map_map] at this ⊢
    rw [this]
  | [], _ :: _, h => by simp at h
  | _ :: _, [], h => by simp at h
theorem kvs_keys {H : Hp} {ι : List Addr} : ∀ {xs : List Str} {vs : List V}, xs.length = vs.length → DVs G H ι (xs.map .str) ((kvsOf xs vs).map fun p => kV p.1)
  | [], [], _ => rfl
  | x :: xs, v :: vs, h => ⟨.str x, _, rfl, rfl, kvs_keys (xs := xs) (vs := vs) (by simpa using h)⟩
  | [], _ :: _, h => by simp at h
  | _ :: _, [], h => by simp at h
theorem kvs_nodup {xs : List Str} {vs : List V} (h : xs.Nodup) (hl : xs.length = vs.length) : ((kvsOf xs vs).map (·.1)).Nodup := by
  have e : (kvsOf xs vs).map (·.1) = xs.map Sum.inr := by
    rw [kvsOf, List.map_map]
    have : ((fun p : Key × V => p.1) ∘ fun p : Str × V => (Sum.inr p.1, p.2)) = Sum.inr ∘ Prod.fst := rfl
    rw [this, ← List.map_map, List.map_fst_zip (by omega)]
  rw [e]
  exact List.Pairwise.map _ (fun a b h z => h (by injection z)) h
theorem de_dsp (t : DPs k X G W pos keys values xs fs) (hnd : xs.Nodup := by decide) (hall : keys.all (·.isSome) = true := by rfl) (hl : keys.length = values.length := by rfl) (h0 : keys ≠ [] := by simp) (h15 : keys.length ≤ 15 := by decide) :
    DE k X G W (.Dict keys values pos) (eDsp xs fs) := fun cc => by
  obtain ⟨trs, h1, h2⟩ := (t cc).ex
  refine peI (pe_frz (pe_disp h1 hall hl h0 h15)) fun σ H Q ⟨δ, μ, ι, rs, q⟩ => ?_
  intro p hp
  have x1 : Ext H (upd H p (.dK [])) := Ext.upd_free hp
  have hm : MV G (upd H p (.dK [])) (ι ++ [p]) p (.dic false [] []) := ⟨[], upd_same, rfl, rfl⟩
  have rs1 : RS G σ (upd H p (.dK [])) δ (μ ++ [some (.dic false [] [])]) (ι ++ [p]) := rs.ext x1 (List.prefix_append _ _) (rs.hs.alloc hp _ hm)
  have hnp : (ι ++ [p])[μ.length]? = some p := by rw [← rs.hs.ln]; simp
  refine h2 _ _ _ ⟨δ, _, _, rs1, RR.bnd (RR.at_ (trunc_read rs q) x1 (List.prefix_append _ _)) fun l μ1 vs H1 ι1 x2 p2 rs2 dl q => ?_⟩
  simp only [dspEnd] at q
  split at q
  · rename_i em
    by_cases hc : l.length = xs.length ∧ xs.length ≤ 15
    · rw [if_pos hc] at q
      have ea := pre_get p2 hnp
      obtain ⟨kvs, e1, r1, r2⟩ := rs2.hs.there em ea
      obtain rfl : kvs = [] := by
        have := DVs.length r1
        exact List.eq_nil_of_length_eq_zero (by simpa using this.symm)
      have hlv : xs.length = vs.length := by rw [← hc.1]; exact dl.length
      refine ⟨e1, kvsOf xs vs, txs_kvs _ _, by simp [kvsOf, ← hlv, hc.2], .inl ⟨p, _, rfl, upd_same, trivial, fun o => ?_⟩⟩
      rw [upd_upd, mergeK_nodup (by rw [List.nil_append]; exact kvs_nodup hnd hlv), List.nil_append]
      have x : Ext H1 (upd H1 p (.frz o (.dK (kvsOf xs vs)))) := Ext.upd_chg e1 trivial
      refine q _ _ ι1 x (List.prefix_refl _) (rs2.ext x (List.prefix_refl _) (rs2.hs.frz em ea _)) ⟨p, o, rfl, kvsOf xs vs, upd_same, kvs_keys hlv, ?_⟩
      rw [kvs_vals hlv]
      exact DVs.mono x (List.prefix_refl _) _ _ dl
    · rw [if_neg hc] at q; exact q.elim
  · exact q.elim
end
end SZ
end
section
/-! SZ, part Z: an own ==. -/
namespace SZ
open PySem PySem.Spec PyProof.Rows L2
/-- the class c has an own == by the def F -/
structure EqOk (G : Glo) (base : Heap) (k : Nat) (c : Nat) (F : FF) : Prop where
  ex : ∃ C f ns, G.cl c = some (C, ns) ∧ PySem.W.findIn G.K (.ref C) "__eq__" = some (some (.ref f)) ∧ PySem.W.isFn G.K (.ref f) = true ∧ FnD G base k f 2 F ∧ PySem.W.notFirst G.K C (.type "tuple") = true
section
variable {k : Nat} {X : Cx} {G : Glo} {W : WX} {a b o : Expr} {fa fb fe fo : EF} {ta tb ft : TF} {pos p apos : Pos} {es : List Expr} {fs : AF} {ct : CT}
@[simp] def eqO (c : Nat) (F : FF) (x y : D) (μ : MH) : R D := match insOf μ x with
  | some (c', _) => if c' = c then (match y with
    | .obj c2 _ => if c2 = c then F [x, y] μ else .no
    | .tup _ => F [x, y] μ
    | _ => .no) else .no
  | none => eqD false x y μ
theorem cmpBack_of {Q : Value → Shared → Prop} {z : V} {w : Value} {s' : Shared} (r : L2.RelV z w) (h : Q w s') : PySem.W.CmpBack Q w s' := by
  cases w <;> first | exact h | skip
  cases z <;> simp [L2.RelV] at r
theorem od_eqO {c : Nat} {F : FF} (T : EqOk G X.base k c F) : OpD k X G W (compareOp .Eq) (eqO c F) := fun cc pins s σ H δ μ ι d e x y v u Q I rx ry rs dx dy q => by
  unfold eqO at q
  cases h1 : insOf μ d with
  | none => simp only [h1] at q; exact od_eq cc pins s σ H δ μ ι d e x y v u Q I rx ry rs dx dy q
  | some cv =>
    obtain ⟨c', vs⟩ := cv
    simp only [h1] at q
    by_cases hc : c' = c
    · rw [if_pos hc] at q
      obtain ⟨C, f, ns, hcl, hs, hf, D, hn⟩ := T.ex
      obtain ⟨fd, ps, F0, hps, hk, hb⟩ := D.ex
      have F1 : FnOk X.prog X.w X.K X.mg X.base (L2.CX X.prog X.w) k f fd ps (spD G 2 F) := by rw [cc.hP, cc.hw, cc.hK, cc.hm]; exact F0
      obtain ⟨ad, C', dd, gs, ns', ex, rd, hcl', hn', dl⟩ := ins_view rs dx h1
      rw [hc, hcl] at hcl'
      cases hcl'
      subst ex
      cases rx
      obtain ⟨mA, O, _⟩ := ins_getR I rd
      obtain ⟨od, J, _⟩ := O.look
      obtain ⟨m, hF⟩ := I.fr
      rw [← cc.hK] at hs hf hn
      have fin : ∀ {uy : Value} {tb : Value}, L2.RelV y uy → PySem.W.Looks (model X.prog X.w) s.heap (typeOf uy) tb → PySem.W.notFirst X.K C tb = true → RR G W σ δ (DV G) H ι (F [d, e] μ) Q →
          wpAny (model X.prog X.w) X.A (richCompare .Eq (.ref ad) uy) (EP X pins σ Q) X.xe s := fun {uy tb} ry hb' hnf q => by
        refine PySem.W.cmp_K (op := .Eq) (tb := tb) (by have := cc.room.units; omega) hF I.ok.mod.kin J hb' hnf hs hf ?_
        refine wpAny_mono (run_fnS (us := [.ref ad, uy]) (vs := [.ref ad, y]) F1 cc.room (by rw [cc.hK]; exact hb) (passAt cc.tk σ) I (.cons rfl (.cons ry .nil)) (fn_read D.ln rs (DVs.cons dx (DVs.cons dy (show DVs G H ι [] [] from rfl))) q)) (fun w s' z => ?_) fun _ _ z => z
        obtain ⟨z1, H', I', rz, qz⟩ := z
        exact cmpBack_of rz ⟨z1, H', I', rz, qz⟩
      show wpAny (model X.prog X.w) X.A (richCompare .Eq (.ref ad) u) (EP X pins σ Q) X.xe s
      cases e <;> first | exact q.elim | skip
      · obtain ⟨ay, ys, rfl, sq, _⟩ := dy
        cases ry
        rw [← cc.hK] at sq
        obtain ⟨its, r, ⟨oo, e1, e2, _⟩, _⟩ := I.tuple sq
        refine fin (tb := .type "tuple") rfl ?_ hn q
        have : PySem.W.Looks (model X.prog X.w) s.heap (typeOf (.ref ay)) oo.cls := (PySem.W.Looks.ld e1).andThen .now
        have e3 : oo.cls = .type "tuple" := by first | exact e2 | exact e2.1
        rw [e3] at this
        exact this
      · rename_i c2 vs2
        by_cases hc2 : c2 = c
        · simp only [if_pos hc2] at q
          obtain ⟨ad2, C2, dd2, gs2, ns2, ey, rd2, hcl2, _, _⟩ := ins_view rs dy (c := c2) (vs := vs2) rfl
          rw [hc2, hcl] at hcl2
          cases hcl2
          subst ey
          cases ry
          obtain ⟨mB, O2, _⟩ := ins_getR I rd2
          obtain ⟨od2, J2, _⟩ := O2.look
          exact fin rfl J2.type (by simp [PySem.W.notFirst]) q
        · simp only [if_neg hc2] at q; exact q.elim
    · rw [if_neg hc] at q; exact q.elim
end
end SZ
end
section
/-! SZ, part EA: the law's end; exception classes' own __init__; classes made with defaults. -/
namespace SZ
open PySem PySem.Spec PyProof.Rows L2
def spLaw (K : PySem.W.Frag) : Sp := fun vs H Q _ => ∃ (a : Addr) (ns : List Int), vs = [.ref a] ∧ Only H ∧ SqL K H a (ns.map V.int) ∧ ns.length ≤ 63 ∧ ∀ H', Q (.bl true) H'
theorem law_imp {G : Glo} {F : FF} (hF : ∀ ns : List Int, ns.length ≤ 63 → ∃ μ', F [.lst (ns.map D.int)] [] = .ok (.bl true) μ') : ∀ vs H Q E, spLaw G.K vs H Q E → spD G 1 F vs H Q E := by
  intro vs H Q E ⟨a, ns, hv, hO, hS, hl, q⟩
  obtain ⟨μ', e⟩ := hF ns hl
  subst hv
  have fz : FzL G.K H a (ns.map V.int) := by
    rcases hS with h | h
    · rcases h with h | h
      · rcases hO a with z | ⟨o, xs, z⟩ <;> (rw [z] at h; cases h)
      · exact .inl h
    · exact .inr h
  refine ⟨rfl, [], [], [.lst (ns.map D.int)], ⟨rfl, fun n m e => by simp at e, fun n n' m m' a e => by simp at e⟩, ⟨_, _, rfl, ⟨a, _, rfl, fz, ints_dvs ns⟩, rfl⟩, ?_⟩
  rw [e]
  intro v H' ι' _ _ _ dv
  rw [show v = .bl true from dv]
  exact q H'
theorem walkZ {l : PySem.W.OpenLaw} {q : Program} {loose : List Str} {XP : (Str → Option Value) → Heap → Prop} {YP : World → Heap → Prop} {d : DefRec} {K : Params → PySem.W.Frag} (k : Nat) (hn : l.most = some 63) (hdf : d.params.defaults = []) (hr : Room k callerA)
    (hY : ∀ (w : World) (h : Heap), YP w h → (K w.params).In h)
    (F : ∀ (w : World) (mg : Str → Option Value) (fa : Addr) (h : Heap), (K w.params).In h → h.Ns mainGlobals mg → mg d.name = some (.ref fa) →
      ∃ fd : FuncData, (∀ (s : Shared) (u : Value), BindsTo s fd ⟨[u], []⟩ [("_law_script", u)]) ∧ ∀ base : Heap, (K w.params).In base → base.Ns mainGlobals mg → FnOk l.prog w (K w.params) mg base (L2.CX l.prog w) k fa fd ["_law_script"] (spLaw (K w.params))) :
    PySem.W.WalkO q loose XP YP l.row.toRowW d [] (fun f vs => PySem.call f vs) :=
  L2.walk_of (n := 63) (k := k) (x := "_law_script") (CX := fun w => L2.CX l.prog w) (sp := fun w => spLaw (K w.params)) hn (by decide) hdf hr hY F (fun _ _ a ns hl hO hS => ⟨a, ns, rfl, hO, hS, hl, fun _ => rfl⟩) fun _ _ _ _ _ z => by
    obtain ⟨_, _, _, z⟩ := z
    simp at z
section
variable {G : Glo} {base : Heap} {fI C : Addr} {fd : FuncData} {st : Stmt} {f g qual : Str}
theorem x1_mk1 {p1 p2 p3 p4 : Pos} (T : Fun G.K "__init__" qual st fI fd) (S : FnScope ["self", f] ["self", f] (defScope st)) (hb : defBody st = [.Assign [.Attribute (.Name "self" p1) f p2] (.Name f p3) p4]) (O : OexC G.K C) (hno : PySem.W.findIn G.K (.ref C) f = some none)
    (v0 : Vis (defScope st) "self") (v1 : Vis (defScope st) f) (hd : (f == ("__debug__" : Str)) = false) (hcd : (f == ("__classdict__" : Str)) = false)
    (hs : ∀ env, swapsWith (.Name f p3) (some (.Attribute (.Name "self" p1) f p2)) p4.line env = pure false) :
    FnOk G.P G.w G.K G.mg base (L2.CX G.P G.w) 1 fI fd ["self", f] (spXI C [f]) :=
  T.okX S (fun vs H Q E h => h.1) fun cdv A outer s H vs Q E hr h => by
    rw [hb]
    refine ⟨_, init_run1 (C := C) O hno rfl rfl v0 v1 hd hcd (hs _), ?_⟩
    obtain ⟨hl, a, ys, rfl, ea, q⟩ := h
    match ys, hl with
    | [y], _ => exact ⟨a, y, rfl, rfl, ea, fun d nd hne => q d nd hne⟩
theorem x1_mk2 {p1 p2 p3 p4 p5 p6 p7 p8 : Pos} (T : Fun G.K "__init__" qual st fI fd) (S : FnScope ["self", f, g] ["self", f, g] (defScope st)) (hb : defBody st = [.Assign [.Attribute (.Name "self" p1) f p2] (.Name f p3) p4, .Assign [.Attribute (.Name "self" p5) g p6] (.Name g p7) p8]) (O : OexC G.K C) (hno : PySem.W.findIn G.K (.ref C) f = some none) (hno2 : PySem.W.findIn G.K (.ref C) g = some none)
    (v0 : Vis (defScope st) "self") (v1 : Vis (defScope st) f) (v2 : Vis (defScope st) g) (hd : (f == ("__debug__" : Str)) = false) (hcd : (f == ("__classdict__" : Str)) = false) (hd2 : (g == ("__debug__" : Str)) = false) (hcd2 : (g == ("__classdict__" : Str)) = false)
    (hs : ∀ env, swapsWith (.Name f p3) (some (.Attribute (.Name "self" p1) f p2)) p4.line env = pure false) (hs2 : ∀ env, swapsWith (.Name g p7) (some (.Attribute (.Name "self" p5) g p6)) p8.line env = pure false) :
    FnOk G.P G.w G.K G.mg base (L2.CX G.P G.w) 1 fI fd ["self", f, g] (spXI C [f, g]) :=
  T.okX S (fun vs H Q E h => h.1) fun cdv A outer s H vs Q E hr h => by
    rw [hb]
    refine ⟨_, init_run2 (C := C) O hno hno2 rfl rfl rfl v0 v1 v2 hd hcd hd2 hcd2 (hs _) (hs2 _), ?_⟩
    obtain ⟨hl, a, ys, rfl, ea, q⟩ := h
    match ys, hl with
    | [y, z], _ => exact ⟨a, y, z, rfl, rfl, rfl, ea, fun d nd hne => q d nd hne⟩
end
section
variable {K : PySem.W.Frag} {S D : Addr} {b : Bool} {t : String}
theorem kitcls_of {v : Value} (h2 : PySem.W.isClsIn K S = true) (h3 : PySem.W.typeIn K (.ref S) = some (.type "type")) (h4 : PySem.W.subIn K v (.ref S) = some b) : PySem.W.kitCls K v (.ref S) = some b := by
  have e2 : ((PySem.W.clsIn K S).isSome && PySem.W.typeIn K (.ref S) == some (.type "type")) = true := by
    have h2' : (PySem.W.clsIn K S).isSome = true := h2
    rw [h2', h3] <;> rfl
  show (if ((PySem.W.clsIn K S).isSome && PySem.W.typeIn K (.ref S) == some (.type "type")) = true then PySem.W.subIn K v (.ref S) else none) = some b
  rw [if_pos e2]
  exact h4
theorem exm_sub (h1 : PySem.W.subIn K (.ref S) (.type "BaseException") = some true) (h2 : PySem.W.isClsIn K S = true) (h3 : PySem.W.typeIn K (.ref S) = some (.type "type")) (h4 : PySem.W.subIn K (.ref D) (.ref S) = some b) :
    PySem.W.exmOne K (.ref D) (.ref S) = some b := by
  have e1 : (PySem.W.subIn K (.ref S) (.type "BaseException") == some true) = true := by rw [h1] <;> rfl
  unfold PySem.W.exmOne
  rw [if_pos e1]
  exact kitcls_of h2 h3 h4
theorem kit_sub (h2 : PySem.W.isClsIn K S = true) (h3 : PySem.W.typeIn K (.ref S) = some (.type "type")) (h4 : PySem.W.subIn K (.ref D) (.ref S) = some true) : PySem.W.kitOne K (.ref D) (.ref S) = some true := by
  unfold PySem.W.kitOne
  split
  · rfl
  · exact kitcls_of h2 h3 h4
theorem kit_typ (h2 : PySem.W.isClsIn K S = true) (h3 : PySem.W.typeIn K (.ref S) = some (.type "type")) (h4 : PySem.W.subIn K (.type t) (.ref S) = some b) : PySem.W.kitOne K (.type t) (.ref S) = some b := by
  unfold PySem.W.kitOne
  have e : (Value.type t == Value.ref S) = false := by rfl
  rw [e]
  exact kitcls_of h2 h3 h4
end
end SZ
end
section
/-! SZ, part EB: further functions on data: dicts made and walked, stars, sorts, texts, closures. -/
namespace SZ
open PySem PySem.Spec PyProof.Rows L2
/-! ### dicts -/
/-- {} that will change; t: its keys are tuples -/
@[simp] def eDicM (t : Bool) : EF := fun _ μ => .ok (.ref μ.length) (μ ++ [some (.dic t [] [])])
/-- {} that never changes -/
@[simp] def eDicF : EF := fun _ μ => .ok (.dic false [] []) μ
/-- {k: v}, k a tuple -/
@[simp] def dsp1E (n : Nat) (x y : D) (μ1 : MH) : R D := match keyOf true x with
  | some _ => match μ1[n]? with
    | some (some (.dic true [] [])) => .ok (.ref n) (μ1.set n (some (.dic true [x] [y])))
    | _ => .no
  | none => .no
@[simp] def eDsp1M (fk fv : EF) : EF := fun δ μ => (fk δ (μ ++ [some (.dic true [] [])])).bind fun x μ1 => (fv δ μ1).bind fun y μ2 => dsp1E μ.length x y μ2
@[simp] def eDsp1 (fk fv : EF) : EF := fun δ μ => trunc μ ((eDsp1M fk fv δ μ).bind frzD)
/-- d != {} -/
@[simp] def eDicNe (fa : EF) : EF := fun δ μ => (fa δ μ).bind fun d μ => match dicOf μ d with
  | some (_, ks, _) => .ok (.bl (!ks.isEmpty)) μ
  | none => .no
/-- d.get(k, x), the keys tuples -/
@[simp] def getD (d k x : D) (μ : MH) : R D := match dicOf μ d with
  | some (true, ks, vs) => match keyOf true k with
    | some q => .ok ((dlook q ks vs).getD x) μ
    | none => .no
  | _ => .no
@[simp] def isDicT (μ : MH) : D → Bool
  | .dic true _ _ => true
  | .ref n => match μ[n]? with
    | some (some (.dic true _ _)) => true
    | _ => false
  | _ => false
@[simp] def eGet (fo fk fx : EF) : EF := fun δ μ => (fo δ μ).bind fun d μ => if isDicT μ d = true then (fk δ μ).bind fun k μ => (fx δ μ).bind fun x μ => getD d k x μ else .no
/-- d.setdefault(k, x), the keys tuples -/
@[simp] def setdD (d k x : D) (μ : MH) : R D := match d with
  | .ref n => match μ[n]? with
    | some (some (.dic true ks vs)) => match keyOf true k with
      | some q => match dlook q ks vs with
        | some y => .ok y μ
        | none => if ks.length < sizeLine then .ok x (μ.set n (some (.dic true (ks ++ [k]) (vs ++ [x])))) else .no
      | none => .no
    | _ => .no
  | _ => .no
@[simp] def eSetd (fo fk fx : EF) : EF := fun δ μ => (fo δ μ).bind fun d μ => if isDicT μ d = true then (fk δ μ).bind fun k μ => (fx δ μ).bind fun x μ => setdD d k x μ else .no
/-- a copy of a dict; it will change -/
@[simp] def eDicC (g : AF) : EF := fun δ μ => (g δ μ).bind fun l μ => match l with
  | [d] => match dicOf μ d with
    | some (t, ks, vs) => .ok (.ref μ.length) (μ ++ [some (.dic t ks vs)])
    | none => .no
  | _ => .no
/-- a dict of pairs with tuple keys; it never changes -/
def pairsD : List D → List D → List D → Option (List D × List D)
  | [], ks, vs => some (ks, vs)
  | .tup [k, v] :: l, ks, vs => match keyOf true k with
    | some q => pairsD l (dput q k v ks vs).1 (dput q k v ks vs).2
    | none => none
  | _ :: _, _, _ => none
@[simp] def eDicP (g : AF) : EF := fun δ μ => (g δ μ).bind fun l μ => match l with
  | [d] => match lstOf μ d with
    | some l => match pairsD l [] [] with
      | some (ks, vs) => .ok (.dic true ks vs) μ
      | none => .no
    | none => .no
  | _ => .no
/-- for k in d -/
@[simp] def iKy (fa : EF) : IF := fun δ μ => (fa δ μ).bind fun x μ => match x with
  | .dic _ ks _ => .ok (fun _ => true, ks) μ
  | _ => .no
/-- from here on the dict in slot i never changes (no statement of the text) -/
@[simp] def sFz (i : Nat) (f : SF) : SF := fun δ μ => match δ[i]? with
  | some (some (.ref n)) => match μ[n]? with
    | some (some (.dic t ks vs)) => f (δ.set i (some (.dic t ks vs))) (μ.set n none)
    | _ => .no
  | some (some (.dic t ks vs)) => f δ μ
  | _ => .no
/-- for k, v in d.items() -/
def itmD : List D → List D → List D
  | k :: ks, v :: vs => .tup [k, v] :: itmD ks vs
  | _, _ => []
@[simp] def iIt (fa : EF) : IF := fun δ μ => (fa δ μ).bind fun x μ => match x with
  | .dic _ ks vs => .ok (fun _ => true, itmD ks vs) μ
  | _ => .no
/-- {k: v for .. in ..}, text keys, no change of the heap within -/
def dcL (chk : MH → Bool) (g : GF) (fk fv : EF) (δw : Sl) : List D → List D → List D → MH → R D
  | [], ks, vs, μ => if chk μ = true then .ok (.dic false ks vs) μ else .no
  | d :: r, ks, vs, μ => if chk μ = true then match g d δw μ with
      | .ok δ2 μ => (fk δ2 μ).nox.bind fun k μ => (fv δ2 μ).nox.bind fun v μ => match keyOf false k with
        | some q => dcL chk g fk fv δw r (dput q k v ks vs).1 (dput q k v ks vs).2 μ
        | none => .no
      | _ => .no
    else .no
@[simp] def eDc (vs : List Nat) (fi : IF) (g : GF) (fk fv : EF) : EF := fun δ μ => (fi δ μ).bind fun c μ => dcL c.1 g fk fv (wipeD δ vs) c.2 [] [] μ
/-- == of two dicts with text keys -/
def eqDicB (ks vs ks' vs' : List D) : Option Bool := if ks.length = ks'.length then go ks vs else some false
where
  go : List D → List D → Option Bool
  | k :: ks, v :: vs => match keyOf false k with
    | some q => match dlook q ks' vs' with
      | some w => match py v, py w with
        | some p, some p' => if PyData.eqv p p' = true then go ks vs else some false
        | _, _ => none
      | none => some false
    | none => none
  | _, _ => some true
@[simp] def neDic (x y : D) (μ : MH) : R D := match x, y with
  | .dic false ks vs, .dic false ks' vs' => match eqDicB ks vs ks' vs' with
    | some b => .ok (.bl (!b)) μ
    | none => .no
  | _, _ => .no
/-! ### stars, ranges, zip, sorts -/
@[simp] def aStar (f : EF) (g : AF) : AF := fun δ μ => (f δ μ).bind fun d μ => match seqOf μ d with
  | some l => (g δ μ).bind fun m μ => .ok (l ++ m) μ
  | none => .no
@[simp] def eLsR (g : AF) : EF := fun δ μ => (g δ μ).bind fun l μ => match l with
  | [.int j] => if 0 ≤ j ∧ j ≤ 1000 then .ok (.lst (rngD 0 j.toNat)) μ else .no
  | _ => .no
def zipD : List D → List D → List D
  | a :: l, b :: m => .tup [a, b] :: zipD l m
  | _, _ => []
@[simp] def iZp (g : AF) : IF := fun δ μ => (g δ μ).bind fun l μ => match l with
  | [.lst l, .lst m] => .ok (fun _ => true, zipD l m) μ
  | _ => .no
def pyO (d : D) : PyData := (py d).getD .none
def sortOk (ps : List PyData) : Bool := (ps.all fun p => ps.all fun q => PySem.W.alike p q) && ((ps.all fun p => match p with
    | .tuple (_ :: _) => true
    | _ => false) || ps.all fun p => match p with
    | .tuple _ | .none => false
    | _ => true) && ps.all fun p => decide (p.depth ≤ 50)
def srtL (l : List D) : Option (List D) := match pys l with
  | some ps => if sortOk ps = true ∧ l.length ≤ sizeLine then some (l.mergeSort (PySem.W.dataLe false pyO)) else none
  | none => none
def srtD : List D → MH → R D := fun l μ => match l with
  | [x] => match lstOf μ x with
    | some l => match srtL l with
      | some r => .ok (.lst r) μ
      | none => .no
    | none => .no
  | _ => .no
def eSrt (g : AF) : EF := eCall srtD g
/-- sorted of a dict's keys -/
def srtK : List D → MH → R D := fun l μ => match l with
  | [.dic _ ks _] => match srtL ks with
      | some r => .ok (.lst r) μ
      | none => .no
  | _ => .no
def eSrtK (g : AF) : EF := eCall srtK g
@[simp] def eSoSetL (fa : EF) : EF := fun δ μ => (fa δ μ).bind fun d μ => match lstOf μ d with
  | some l => match intsOf l with
    | some ns => if (sdI ns).length < 60 then .ok (.lst ((sdI ns).map D.int)) μ else .no
    | none => .no
  | _ => .no
/-- list + list, the sum will change -/
@[simp] def addM (x y : D) (μ : MH) : R D := match lstOf μ x, lstOf μ y with
  | some l, some m => if l.length + m.length ≤ sizeLine then .ok (.ref μ.length) (μ ++ [some (.lst (l ++ m))]) else .no
  | _, _ => .no
/-- list * int, the list never changes -/
@[simp] def repL (x y : D) (μ : MH) : R D := match x, y with
  | .lst l, .int k => if 0 ≤ k ∧ k ≤ 1000 ∧ l.length ≤ 1000 then .ok (.lst (List.replicate k.toNat l).flatten) μ else .no
  | _, _ => .no
/-- t.count(n), t a tuple of ints -/
@[simp] def eCnt (fo fa : EF) : EF := fun δ μ => (fo δ μ).bind fun d μ => (fa δ μ).bind fun x μ => match d, x with
  | .tup l, .int i => match intsOf l with
    | some ns => .ok (.int (ns.count i)) μ
    | none => .no
  | _, _ => .no
/-! ### texts -/
def strsOf : List D → Option (List Str)
  | [] => some []
  | .str a :: l => (strsOf l).map (a :: ·)
  | _ :: _ => none
@[simp] def eJoin (fo fa : EF) : EF := fun δ μ => (fo δ μ).bind fun d μ => match d with
  | .str a => (fa δ μ).bind fun x μ => match seqOf μ x with
    | some l => match strsOf l with
      | some ys => if (ys.map (·.length)).sum + ys.length * a.length ≤ 16777216 then .ok (.str (Txt.join a ys)) μ else .no
      | none => .no
    | none => .no
  | _ => .no
@[simp] def splD (a : Str) : D → MH → R D := fun x μ => match x with
  | .str b => if (b.length == 0) = false ∧ a.length + 2 ≤ sizeLine then .ok (.lst ((Txt.split a b).map .str)) μ else .no
  | _ => .no
@[simp] def eSplit (fo fa : EF) : EF := fun δ μ => (fo δ μ).bind fun d μ => match d with
  | .str a => (fa δ μ).bind fun x μ => splD a x μ
  | _ => .no
/-- text * 0, 1, 2 -/
@[simp] def repS (x y : D) (μ : MH) : R D := match x, y with
  | .str a, .int k => if 0 ≤ k ∧ k ≤ 2 ∧ a.length ≤ 1000 then .ok (.str (if k = 0 then Str.empty else if k = 1 then a else a ++ a)) μ else .no
  | _, _ => .no
/-- for c in text -/
@[simp] def iSt (fa : EF) : IF := fun δ μ => (fa δ μ).bind fun x μ => match x with
  | .str z => .ok (fun _ => true, z.cps.toList.map fun c => .str ⟨#[c]⟩) μ
  | _ => .no
/-! ### own objects -/
@[simp] def neO (c : Nat) (F : FF) (x y : D) (μ : MH) : R D := (eqO c F x y μ).bind fun d μ => match d with
  | .bl b => .ok (.bl (!b)) μ
  | _ => .no
@[simp] def eLenO (c : Nat) (F : FF) (fa : EF) : EF := fun δ μ => (fa δ μ).bind fun d μ => match insOf μ d with
  | some (c', _) => if c' = c then (F [d] μ).nox.bind fun x μ => match x with
      | .int i => if 0 ≤ i ∧ i ≤ 1000 then .ok (.int i) μ else .no
      | _ => .no
    else .no
  | none => .no
/-! ### closures -/
@[simp] def eClo (j : Nat) (is : List Nat) : EF := fun δ μ => match is.mapM fun i => (δ[i]?).join with
  | some vs => .ok (.clo j vs) μ
  | none => .no
/-- a closure's body as a def: its own parameters, then what it holds -/
def cloB (nl np : Nat) (vs : List D) (body : SF) : FF := fun ds μ => if ds.length = np then trunc μ (body (ds.map some ++ vs.map some ++ List.replicate (nl - np - vs.length) none) μ).fin else .no
@[simp] def apD2 (ftab : Nat → FF) (ctab : Nat → List D → FF) (d : D) (r : R (List D)) : R D := match d with
  | .fn j => r.bind fun l μ => ftab j l μ
  | .clo j vs => r.bind fun l μ => ctab j vs l μ
  | _ => .no
@[simp] def eFc2 (ct : CT) (f : Str) (ftab : Nat → FF) (ctab : Nat → List D → FF) (fo : EF) (g : AF) : EF := fun δ μ => (fo δ μ).bind fun d μ => (fldD ct f d μ).bind fun x μ => apD2 ftab ctab x (g δ μ)
end SZ
end
section
/-! SZ, part EC: defs as values, recursion's start, tables of closures. -/
namespace SZ
open PySem PySem.Spec PyProof.Rows L2
section
variable {base : Heap} {G : Glo}
/-- a def that is never let in: the start of a recursion -/
theorem fn_zero (hx : G.xa = none) {x qual : Str} {st : Stmt} {f : Addr} {fd : FuncData} {N ps : List Str} {k : Nat} (T : Fun G.K x qual st f fd) (S : FnScope N ps (defScope st))
    (hbind : ∀ (kV doc pm : Value) (an : Option Addr) (cdv ct : Value) (us : List Value), us.length = ps.length → bindArgs (PySem.W.fnOf x qual (defArgs st) (defBody st) (defScope st) .none kV doc pm an cdv ct) ⟨us, []⟩ = pure (ps.zip us)) :
    FnD G base k f ps.length (fun _ _ => .no) :=
  ⟨⟨fd, ps, ⟨fun vs H Q E h => h.1, fun A outer s H args us vs Q E hr he hb hv h => h.2.elim fun _ z => z.elim fun _ z => z.elim fun _ z => z.2.2.elim⟩, rfl, T.kp, T.binds hbind⟩, fun _ _ _ => rfl⟩
/-- a def of the module as a value -/
structure FvOk (G : Glo) (x : Str) (j : Nat) : Prop where
  ex : ∃ a, G.mg x = some (.ref a) ∧ G.fn j = some a
theorem de_fnv {k : Nat} {X : Cx} {W : WX} {x : Str} {j : Nat} {pos : Pos} (T : FvOk G x j) (hg : Gl X x := by rfl) (hb : (x == ("__debug__" : Str)) = false := by decide) : DE k X G W (.Name x pos) (eC (.fn j)) := by
  obtain ⟨a, h1, h2⟩ := T.ex
  exact de_glob (v := .ref a) h1 rfl (fun H ι => ⟨a, h2, rfl⟩) hg hb
/-- the closures' table -/
structure CloT (G : Glo) (base : Heap) (k : Nat) (ct : Nat → List D → FF) : Prop where
  tr : True
theorem CloT.none {k : Nat} {ct : Nat → List D → FF} : CloT G base k ct := ⟨trivial⟩
theorem CloT.mono {j k : Nat} {ct : Nat → List D → FF} (h : CloT G base j ct) (hj : j ≤ k) : CloT G base k ct := ⟨trivial⟩
end
end SZ
end
section
/-! SZ, part ED: rules: stars, texts. -/
namespace SZ
open PySem PySem.Spec PyProof.Rows L2
section
variable {k : Nat} {X : Cx} {G : Glo} {W : WX} {a b c o : Expr} {fa fb fc fe fo : EF} {ta tb ft : TF} {pos p apos : Pos} {es : List Expr} {fs : AF}
theorem seq_dvs {σ : L2.St} {H : Hp} {δ : Sl} {μ : MH} {ι : List Addr} {x : D} {v : V} {l : List D} (rs : RS G σ H δ μ ι) (dx : DV G H ι x v) (h : seqOf μ x = some l) :
    ∃ a vs, v = .ref a ∧ DVs G H ι l vs ∧ (SqT G.K H a vs ∨ SqL G.K H a vs) := by
  obtain ⟨a, vs, e, d, q | q⟩ := seq_two rs dx h
  · exact ⟨a, vs, e, d, .inl q.1⟩
  · exact ⟨a, vs, e, d, .inr q.1⟩
theorem da_star {p : Pos} (h : DE k X G W a fa) (t : DA k X G W es fs) (hs : starEach (.Starred a p :: es) X.env = (true, eval a X.env) :: starEach es X.env := by rfl) : DA k X G W (.Starred a p :: es) (aStar fa fs) := fun cc =>
  paI (StX.pa_star (h cc) (t cc) hs) fun σ H Q ⟨δ, μ, ι, rs, q⟩ => ⟨δ, μ, ι, rs, RR.bnd q fun d μ1 x H1 ι1 x1 p1 rs1 dx q => by
    cases e : seqOf μ1 d with
    | none => rw [e] at q; exact q.elim
    | some l =>
      rw [e] at q
      obtain ⟨ad, vs, rfl, dl, sq⟩ := seq_dvs rs1 dx e
      rw [← cc.hK] at sq
      exact ⟨ad, vs, rfl, sq, δ, μ1, ι1, rs1, RR.bnd q fun m μ2 ys H2 ι2 x2 p2 rs2 dm q => q.now rs2 ((DVs.mono x2 p2 _ _ dl).append dm)⟩⟩
/-! ### texts -/
theorem strs_dvs {H : Hp} {ι : List Addr} : ∀ {l : List D} {vs : List V} {ys : List Str}, DVs G H ι l vs → strsOf l = some ys → vs = ys.map V.str
  | [], _, _, rfl, h => by cases h; rfl
  | .str a :: l, _, ys, ⟨v, r, rfl, hv, t⟩, h => by
    simp only [strsOf, Option.map_eq_some_iff] at h
    obtain ⟨zs, h1, rfl⟩ := h
    rw [strs_dvs t h1, show v = .str a from hv]
    rfl
  | .non :: _, _, _, _, h | .bl _ :: _, _, _, _, h | .int _ :: _, _, _, _, h | .tup _ :: _, _, _, _, h | .lst _ :: _, _, _, _, h | .dic _ _ _ :: _, _, _, _, h | .obj _ _ :: _, _, _, _, h | .fn _ :: _, _, _, _, h | .ref _ :: _, _, _, _, h | .exn _ _ :: _, _, _, _, h | .clo _ _ :: _, _, _, _, h => by cases h
theorem dvs_strs {H : Hp} {ι : List Addr} : ∀ ys : List Str, DVs G H ι (ys.map .str) (ys.map V.str)
  | [] => rfl
  | y :: ys => ⟨.str y, _, rfl, rfl, dvs_strs ys⟩
theorem de_join (ho : DE k X G W o fo) (ha : DE k X G W a fa) (hs : starEach [a] X.env = [(false, eval a X.env)] := by rfl) (hbase : attributeBase o "join" X.env (eval o X.env) = eval o X.env := by rfl) (hline : (apos.endLine == pos.line) = true := by rfl) :
    DE k X G W (.Call (.Attribute o "join" apos) [a] [] pos) (eJoin fo fa) := fun cc =>
  peI (pe_join (ho cc) (ha cc) hs hbase hline) fun σ H Q ⟨δ, μ, ι, rs, q⟩ => ⟨δ, μ, ι, rs, RR.bnd q fun d μ1 x H1 ι1 x1 p1 rs1 dx q => by
    cases d with
    | str s =>
      have ex : x = .str s := dx
      subst ex
      refine ⟨⟨s, rfl⟩, δ, μ1, ι1, rs1, RR.bnd q fun y μ2 v H2 ι2 x2 p2 rs2 dy q => ?_⟩
      cases e : seqOf μ2 y with
      | none => rw [e] at q; exact q.elim
      | some l =>
        rw [e] at q
        obtain ⟨ad, vs, rfl, dl, sq⟩ := seq_dvs rs2 dy e
        cases e2 : strsOf l with
        | none => simp only [e2] at q; exact q.elim
        | some ys =>
          simp only [e2] at q
          by_cases hl : (ys.map (·.length)).sum + ys.length * s.length ≤ 16777216
          · rw [if_pos hl] at q
            obtain rfl := strs_dvs dl e2
            rw [← cc.hK] at sq
            exact ⟨s, ad, ys, rfl, rfl, sq.symm, hl, q.now rs2 rfl⟩
          · rw [if_neg hl] at q; exact q.elim
    | _ => exact q.elim⟩
theorem de_split (ho : DE k X G W o fo) (ha : DE k X G W a fa) (hs : starEach [a] X.env = [(false, eval a X.env)] := by rfl) (hbase : attributeBase o "split" X.env (eval o X.env) = eval o X.env := by rfl) (hline : (apos.endLine == pos.line) = true := by rfl) :
    DE k X G W (.Call (.Attribute o "split" apos) [a] [] pos) (eSplit fo fa) := fun cc =>
  peI (pe_frz (pe_split (ho cc) (ha cc) hs hbase hline)) fun σ H Q ⟨δ, μ, ι, rs, q⟩ => ⟨δ, μ, ι, rs, RR.bnd q fun d μ1 x H1 ι1 x1 p1 rs1 dx q => by
    cases d with
    | str s =>
      have ex : x = .str s := dx
      subst ex
      refine ⟨⟨s, rfl⟩, δ, μ1, ι1, rs1, RR.bnd q fun y μ2 v H2 ι2 x2 p2 rs2 dy q => ?_⟩
      cases y with
      | str b =>
        have ev : v = .str b := dy
        subst ev
        simp only [splD] at q
        by_cases hl : (b.length == 0) = false ∧ s.length + 2 ≤ sizeLine
        · rw [if_pos hl] at q
          exact ⟨s, b, rfl, rfl, hl.1, hl.2, fun p hp => q.newL rs2 hp (dvs_strs _)⟩
        · rw [if_neg hl] at q; exact q.elim
      | _ => exact q.elim
    | _ => exact q.elim⟩
theorem wk_str {x : Str} : WkOk G (Its x) (fun _ => true) (x.cps.toList.map fun c => .str ⟨#[c]⟩) (fun _ _ => True) := fun σ H δ μ ι rs b hc => by
  refine ⟨by simp [Its], fun i d hi => ?_⟩
  rw [List.getElem?_map, Option.map_eq_some_iff] at hi
  obtain ⟨c, h1, rfl⟩ := hi
  have h2 : x.cps[i]? = some c := by simpa using h1
  refine ⟨(Array.getElem?_eq_some_iff.mp h2).1, fun v H' y => ?_⟩
  obtain ⟨rfl, c', h3, rfl⟩ := y
  rw [h2] at h3
  cases h3
  exact ⟨.refl, rs, rfl⟩
theorem di_str {tg : Expr} (h : DE k X G W a fa) : DI k X G W tg a (iSt fa) := fun cc =>
  piI (pi_str (h cc)) fun σ H R ⟨δ, μ, ι, rs, q⟩ => ⟨δ, μ, ι, rs, RR.bnd q fun d μ1 x H1 ι1 x1 p1 rs1 dx q => by
    cases d with
    | str s => exact ⟨s, dx, q.now rs1 ⟨_, trivial, fun _ _ _ _ _ _ b => b, wk_str⟩⟩
    | _ => exact q.elim⟩
/-- text * 0, 1, 2 -/
theorem od_repS : OpD k X G W (binaryOp .Mult) repS := fun cc pins s σ H δ μ ι d e x y v u Q I rx ry rs dx dy q => by
  cases d <;> first | exact q.elim | skip
  cases e <;> first | exact q.elim | skip
  rename_i z i
  simp only [repS] at q
  by_cases h : 0 ≤ i ∧ i ≤ 2 ∧ z.length ≤ 1000
  · rw [if_pos h] at q
    have ex : x = .str z := dx
    have ey : y = .int i := dy
    subst ex ey
    obtain ⟨t, rfl⟩ := rx
    obtain ⟨t', rfl⟩ := ry
    obtain ⟨h0, h1, h2⟩ := h
    have q1 := q.now rs rfl
    have i3 : i = 0 ∨ i = 1 ∨ i = 2 := by omega
    have tl : ∀ n : Nat, n ≤ 2000 → Builtin.Str.tooLong n = false := fun n hn => by
      unfold Builtin.Str.tooLong
      have : ¬ n > sizeLine := Nat.not_lt.mpr (Nat.le_of_lt (Nat.lt_of_le_of_lt hn (by decide)))
      simp [this]
    have fin : ∀ (y : Str) (t : Tok) (n : Nat), Q (.str y) H → EP X pins σ Q (.str y t) { s with toks := n } := fun y t n z => ⟨.str y, H, I.tok _, ⟨_, rfl⟩, z⟩
    refine PySem.P.mul_str (by rcases i3 with rfl | rfl | rfl <;> decide) (fun a b => ?_) (fun a b => tl _ ?_) ?_
    · rcases i3 with rfl | rfl | rfl <;> simp at a b ⊢ <;> omega
    · rcases i3 with rfl | rfl | rfl <;> simp at a b ⊢ <;> omega
    · rcases i3 with rfl | rfl | rfl
      · exact ⟨by decide, fin _ _ _ q1⟩
      · exact fin z t s.toks q1
      · simp only [show ¬ (2 : Int) < 1 by decide, if_false]
        have e2 : (⟨(List.replicate (2 : Int).toNat z.cps).foldl (· ++ ·) #[]⟩ : Str) = z ++ z := by
          show (⟨(#[] ++ z.cps) ++ z.cps⟩ : Str) = ⟨z.cps ++ z.cps⟩
          rw [Array.empty_append]
        by_cases hz : z.length = 0
        · have e3 : z ++ z = z := by
            have : z.cps = #[] := Array.eq_empty_of_size_eq_zero hz
            show (⟨z.cps ++ z.cps⟩ : Str) = z
            rw [this]
            cases z
            simp only at this
            rw [this]
            rfl
          rw [if_pos (by simp [hz])]
          simp at q1
          rw [e3] at q1
          exact fin z t s.toks q1
        · rw [if_neg (by simp [hz]), e2]
          refine ⟨?_, fin _ _ _ (by simpa using q1)⟩
          show (z.cps ++ z.cps).size ≤ sizeLine
          have hz2 : z.cps.size ≤ 1000 := h2
          rw [Array.size_append]
          exact Nat.le_of_lt (Nat.lt_of_le_of_lt (show z.cps.size + z.cps.size ≤ 2000 by omega) (by decide))
  · rw [if_neg h] at q; exact q.elim
end
end SZ
end
section
/-! SZ, part EE: sorts. -/
namespace SZ
open PySem PySem.Spec PyProof.Rows L2
section
variable {k : Nat} {X : Cx} {G : Glo} {W : WX} {a b c o : Expr} {fa fb fc fe fo : EF} {ta tb ft : TF} {pos p apos : Pos} {es : List Expr} {fs : AF}
variable {pins : List (Addr × Obj)} {s : Shared} {σ : L2.St} {H : Hp} {ι : List Addr}
theorem pys_map : ∀ {l : List D} {ps : List PyData}, pys l = some ps → l.map pyO = ps
  | [], _, h => by cases h; rfl
  | d :: l, ps, h => by
    simp only [pys] at h
    split at h
    · rename_i p qs e1 e2
      cases h
      rw [List.map_cons, pys_map e2]
      simp [pyO, e1]
    · cases h
theorem pys_at : ∀ {l : List D} {ps : List PyData}, pys l = some ps → ∀ d ∈ l, py d = some (pyO d)
  | [], _, _, d, hd => by cases hd
  | x :: l, ps, h, d, hd => by
    simp only [pys] at h
    split at h
    · rename_i p qs e1 e2
      rcases List.mem_cons.mp hd with rfl | hd
      · simp [pyO, e1]
      · exact pys_at e2 d hd
    · cases h
theorem each_of : ∀ {l : List D} {ys : List V} {us : List Value}, DVs G H ι l ys → Vals ys us → PySem.W.EachIs (fun u d => ∃ v : V, RelV v u ∧ DV G H ι d v) us l
  | [], _, _, rfl, .nil => .nil
  | d :: l, _, _, ⟨v, r, rfl, h, t⟩, .cons h1 h2 => .cons ⟨v, h1, h⟩ (each_of t h2)
theorem each_reads (hK : X.K = G.K) (I : Inv X pins σ H s) : ∀ {l : List D} {ys : List V} {us : List Value}, (∀ d ∈ l, py d = some (pyO d)) → DVs G H ι l ys → Vals ys us → PySem.W.EachIs (fun u d => ∃ as, Reads s.heap u (pyO d) as) us l
  | [], _, _, _, rfl, .nil => .nil
  | d :: l, _, _, hp, ⟨v, r, rfl, h, t⟩, .cons h1 h2 => by
    refine .cons ?_ (each_reads hK I (fun e he => hp e (List.mem_cons_of_mem _ he)) t h2)
    have := dp_of d v _ h (hp d (by simp))
    rw [← hK] at this
    exact Dp.reads I _ _ _ this h1
theorem each_back : ∀ {l : List D} {us : List Value}, PySem.W.EachIs (fun u d => ∃ v : V, RelV v u ∧ DV G H ι d v) us l → ∃ ys, Vals ys us ∧ DVs G H ι l ys
  | [], _, .nil => ⟨[], .nil, rfl⟩
  | d :: l, _, .cons ⟨v, h1, h2⟩ t => by
    obtain ⟨ys, k1, k2⟩ := each_back t
    exact ⟨v :: ys, .cons h1 k1, v, ys, rfl, h2, k2⟩
theorem sortOk_facts {ps : List PyData} (h : sortOk ps = true) : PySem.W.AllAlike ps ∧ PySem.W.Sortable ps ∧ ∀ p ∈ ps, p.depth ≤ 50 := by
  simp only [sortOk, Bool.and_eq_true, List.all_eq_true, Bool.or_eq_true, decide_eq_true_eq] at h
  obtain ⟨⟨h1, h2⟩, h3⟩ := h
  refine ⟨fun d hd d' hd' => h1 d hd d' hd', ?_, h3⟩
  rcases h2 with h2 | h2
  · left
    intro d hd
    have := h2 d hd
    split at this
    · exact ⟨_, _, rfl⟩
    · cases this
  · right
    intro d hd
    have := h2 d hd
    refine ⟨fun z => ?_, fun xs z => ?_⟩ <;> (subst z; cases this)
theorem ca_srt : CaD k X G W (.builtin "sorted") srtD := fun cc pins s σ H δ μ ι ds vs us Q I rv rs dv q => by
  unfold srtD at q
  split at q
  · rename_i x
    obtain ⟨v, rfl, dx⟩ := dvs1 dv
    cases e : lstOf μ x with
    | none => simp only [e] at q; exact q.elim
    | some l =>
      simp only [e] at q
      cases e2 : srtL l with
      | none => simp only [e2] at q; exact q.elim
      | some r =>
        simp only [e2] at q
        obtain ⟨ad, ys, rfl, sq, dl⟩ := lst_view rs dx e
        unfold srtL at e2
        cases e3 : pys l with
        | none => simp only [e3] at e2; cases e2
        | some ps =>
          simp only [e3] at e2
          by_cases hc : sortOk ps = true ∧ l.length ≤ sizeLine
          · rw [if_pos hc] at e2
            cases e2
            obtain ⟨f1, f2, f3⟩ := sortOk_facts hc.1
            rw [← cc.hK] at sq
            obtain ⟨its, r1, hl, hz⟩ := I.list sq
            obtain ⟨u, rfl, ru⟩ := vals1 rv
            obtain rfl : u = Value.ref ad := ru
            have hps := pys_map e3
            have hp := pys_at e3
            refine PySem.W.sorted_data (enc := pyO) (bs := l) hl.isList (each_of dl r1) (each_reads cc.hK I hp dl r1) (by rw [hps]; exact f1) (by rw [hps]; exact f2) hc.2 (fun b hb => ?_) fun out ho he => ?_
            · have := f3 (pyO b) (by rw [← hps]; exact List.mem_map.mpr ⟨b, hb, rfl⟩)
              have := cc.room.units
              omega
            · obtain ⟨ws, w1, w2⟩ := each_back he
              obtain ⟨ep, he'⟩ := PyProof.Rows.sortedAll_at s.heap its out.toArray
              refine FQ.ep ⟨.ref _, upd H (s.heap.objs.size + 1) (.lst ws), I.laid (t' := s.toks) (fun _ _ => PyProof.Rows.sortedAll_old) (Nat.le_succ _) ⟨?_, out, ep, w1, he'⟩, rfl, q.newL rs (I.hok.fresh (Nat.le_succ _)) w2⟩
              rw [w1.length, ho]
              exact hc.2
          · rw [if_neg hc] at e2; cases e2
  · exact q.elim
theorem de_srt {fs : AF} (ha : DA k X G W (a :: es) fs) (hm : G.mg "sorted" = none) (hg : Gl X "sorted" := by rfl) (he : starEach (a :: es) X.env = (false, eval a X.env) :: starEach es X.env := by rfl) (hpl : (backTo pos (starEach es X.env)).any (·.1) = false := by rfl) :
    DE k X G W (.Call (.Name "sorted" p) (a :: es) [] pos) (eSrt fs) := de_cb ca_srt hm PyProof.Rows.boot_sorted ha hg (by decide) (by decide) he hpl
end
end SZ
end
section
/-! SZ, part EF: dicts made. -/
namespace SZ
open PySem PySem.Spec PyProof.Rows L2
section
variable {k : Nat} {X : Cx} {G : Glo} {W : WX} {a b c o : Expr} {fa fb fc fe fo : EF} {ta tb ft : TF} {pos p apos : Pos} {es : List Expr} {fs : AF}
theorem le_size1 : 1 ≤ sizeLine := by decide
theorem dn_empty {h : Heap} (hb : sysModules < h.objs.size) : DNp G h.objs.size [] (h.push { cls := .type "dict", data := .dict #[] }) :=
  ⟨beq_eq_false_iff_ne.mpr (Ne.symm (Nat.ne_of_lt hb)), Nat.zero_le _, (fun x hx => by cases hx), _, #[], 0, Heap.get?_push_size _ rfl, ⟨rfl, rfl, rfl⟩, rfl, rfl, List.nodup_nil⟩
theorem de_dicM : DE k X G W (.Dict [] [] pos) (eDicM true) := fun cc => ⟨fun pins s σ H Q I ⟨δ, μ, ι, rs, q⟩ =>
  wpAny_Dict_empty ⟨.ref s.heap.objs.size, _, I.laid (a := s.heap.objs.size) (o := DN G s.heap.objs.size []) (t' := s.toks) (fun _ _ q => Heap.get?_push_of_some _ q) (Nat.le_refl _) (dnp_ok (dn_empty I.big)), rfl,
    RR.newM q rs (I.hok.fresh (Nat.le_refl _)) ⟨[], [], upd_same, rfl, rfl, .nil, rfl⟩⟩⟩
theorem de_dicF : DE k X G W (.Dict [] [] pos) eDicF := fun cc =>
  peI (pe_frz pe_dnewK) fun σ H Q ⟨δ, μ, ι, rs, q⟩ => fun p hp => .inl ⟨p, .dK [], rfl, upd_same, trivial, fun o => by
    rw [upd_upd]
    exact RR.new q rs hp ⟨p, o, rfl, [], upd_same, rfl, rfl⟩⟩
theorem dict1_walk {prog : Program} {w : World} {K : Type} [DecidableEq K] {knd : HeapKind prog w K} {A : Around} {E : Value → Shared → Prop} {s : Shared} {env : Env} {Q : Value → Shared → Prop} (hu : knd.room A)
    (h : wpAny (model prog w) A (eval a env) (fun kv s1 => wpAny (model prog w) A (eval b env) (fun vv s2 => ∃ bk qk, kv = .ref bk ∧ knd.is s2.heap qk bk ∧ s2.heap.DictOfH knd s.heap.objs.size [] ∧
      ∀ h' tk, h'.DictOfH knd s.heap.objs.size [(qk, bk, vv)] → Heap.SameBut s.heap.objs.size s2.heap h' → Q (.ref s.heap.objs.size) { s2 with heap := h', toks := tk }) E s1) E { s with heap := s.heap.push { cls := .type "dict", data := .dict #[] } }) :
    wpAny (model prog w) A (eval (.Dict [some a] [b] pos) env) Q E s := by
  have hp : wpAny (model prog w) A (evalPairs (pairTrees [some a] [b] env pos)) (fun vs s₁ => ∃ ps, CarriesH knd s₁.heap vs ps ∧ s₁.heap.DictOfH knd s.heap.objs.size [] ∧
      ∀ h' tk, h'.DictOfH knd s.heap.objs.size (storedAllH [] ps) → Heap.SameBut s.heap.objs.size s₁.heap h' → wpAny (model prog w) A (pure (Value.ref s.heap.objs.size)) Q E { s₁ with heap := h', toks := tk }) E { s with heap := s.heap.push { cls := .type "dict", data := .dict #[] } } :=
    pairTrees_cons_walk (wpAny_mono h (fun kv s1 h1 => wpAny_mono h1 (fun vv s2 ⟨bk, qk, e, hi, hd, hq⟩ => pairTrees_nil_walk ⟨[(qk, bk, vv)], ⟨e, rfl, hi, trivial⟩, hd, fun h' tk x y => wpAny_pure (hq h' tk x y)⟩) fun _ _ e => e) fun _ _ e => e)
  have hn := pairTrees_length [some a] [b] env pos rfl rfl
  rw [arm_eval_Dict, zip_pairTrees [some a] [b] env pos rfl rfl, dictDisplay_pairs _ (fun z => by rw [z] at hn; cases hn) (by rw [hn]; show 1 < 17; decide)]
  exact wpAny_bind (wpAny_standAt (wpAny_bind (wpAny_subDictH (knd := knd) (Q := fun d s' => wpAny (model prog w) A (pure (Value.ref d)) Q E s') hu (by rw [hn]; show 1 ≤ 15; decide) hp)))
theorem de_dsp1M (ha : DE k X G W a fa) (hb : DE k X G W b fb) : DE k X G W (.Dict [some a] [b] pos) (eDsp1M fa fb) := fun cc => ⟨fun pins s σ H Q I ⟨δ, μ, ι, rs, q⟩ => by
  have hp : H s.heap.objs.size = none := I.hok.fresh (Nat.le_refl _)
  have I1 := I.laid (a := s.heap.objs.size) (o := DN G s.heap.objs.size []) (h' := s.heap.push { cls := .type "dict", data := .dict #[] }) (t' := s.toks) (fun _ _ q => Heap.get?_push_of_some _ q) (Nat.le_refl _) (dnp_ok (dn_empty I.big))
  have xx : Ext H (upd H s.heap.objs.size (DN G s.heap.objs.size [])) := Ext.upd_free hp
  have rs1 : RS G σ (upd H s.heap.objs.size (DN G s.heap.objs.size [])) δ (μ ++ [some (.dic true [] [])]) (ι ++ [s.heap.objs.size]) :=
    rs.ext xx (List.prefix_append _ _) (rs.hs.alloc hp _ ⟨[], [], upd_same, rfl, rfl, .nil, rfl⟩)
  have hin : (ι ++ [s.heap.objs.size])[μ.length]? = some s.heap.objs.size := by rw [← rs.hs.ln]; simp
  have hu := cc.room.units
  have q1 : rE G W fa σ (upd H s.heap.objs.size (DN G s.heap.objs.size [])) fun x H1 => rE G W fb σ H1 fun y H2 => ∃ μ2 ι2 dx dy, RS G σ H2 δ μ2 ι2 ∧ DV G H2 ι2 dx x ∧ DV G H2 ι2 dy y ∧ ι2[μ.length]? = some s.heap.objs.size ∧ RR G W σ δ (DV G) H2 ι2 (dsp1E μ.length dx dy μ2) Q :=
    ⟨δ, _, _, rs1, RR.bnd (RR.at_ q xx (List.prefix_append _ _)) fun dx μ1 x H1 ι1 x1 p1 rs1' dvx q => ⟨δ, μ1, ι1, rs1', RR.bnd q fun dy μ2 y H2 ι2 x2 p2 rs2 dvy q => ⟨μ2, ι2, dx, dy, rs2, DV.mono x2 p2 _ _ dvx, dvy, pre_get (p1.trans p2) hin, q⟩⟩⟩
  rw [cc.hP, cc.hw]
  refine dict1_walk (knd := nestedKind G.P G.w) (show X.A.units + 8 < cLine by omega) ?_
  rw [← cc.hP, ← cc.hw]
  refine thn ((ha cc).run pins _ σ _ _ I1 q1) fun kv s1 ⟨x, H1, I1', rx, q1'⟩ => thn ((hb cc).run pins s1 σ H1 _ I1' q1') fun vv s2 ⟨y, H2, I2, ry, μ2, ι2, dx, dy, rs2, dvx, dvy, hin2, q2⟩ => ?_
  unfold dsp1E at q2
  cases hk : keyOf true dx with
  | none => rw [hk] at q2; exact q2.elim
  | some qk =>
    rw [hk] at q2
    simp only at q2
    split at q2
    · rename_i em
      obtain ⟨bk, e1, e2, hnk, his⟩ := key_tup cc.hK I2 hk dvx rx
      subst e1 e2
      obtain ⟨xs, ws, f1, f2, f3, f4, f5⟩ := rs2.hs.there em hin2
      have hx : xs = [] := by cases xs with
        | nil => rfl
        | cons _ _ => simp at f2
      subst hx
      obtain ⟨z, hlen, hD⟩ := dn_of cc.hK I2 (.inl f1) f2 f3
      refine ⟨bk, qk, rfl, by rw [cc.hP, cc.hw]; exact his, by rw [cc.hP, cc.hw]; exact hD, fun h' tk dd' hs => ?_⟩
      obtain ⟨o, es, ep, g1, g2, g3, g4, g5, g6⟩ := dd'
      rw [cc.hP, cc.hw] at g4
      have x3 : Ext H2 (upd H2 s.heap.objs.size (DN G s.heap.objs.size [(qk, bk, vv)])) := Ext.upd_chg f1 trivial
      obtain ⟨x4, rs4⟩ := RS.wr (m' := .dic true [dx] [dy]) (o := DN G s.heap.objs.size [(qk, bk, vv)]) rs2 em hin2 ⟨_, [y], upd_same, by simp [hnk], DVs.mono x3 (List.prefix_refl _) _ _ (DVs.cons dvx (DVs.nil_iff.mpr rfl)), .cons ry .nil, DVs.mono x3 (List.prefix_refl _) _ _ (DVs.cons dvy (DVs.nil_iff.mpr rfl))⟩
      refine ⟨.ref s.heap.objs.size, _, d_write I2 (by rw [f1]; exact True.intro) hs ⟨o, g1⟩ (dnp_ok ⟨z, ?_, fun w hw => (g5 w hw).2, o, es, ep, g1, g2, g3, g4, g6⟩), rfl, q2 _ _ ι2 x4 (List.prefix_refl _) rs4 ⟨_, hin2, rfl⟩⟩
      exact le_size1
    · exact q2.elim⟩
theorem de_dsp1 (ha : DE k X G W a fa) (hb : DE k X G W b fb) : DE k X G W (.Dict [some a] [b] pos) (eDsp1 fa fb) := fun cc =>
  peI (pe_frz (de_dsp1M ha hb cc)) fun σ H Q ⟨δ, μ, ι, rs, q⟩ => ⟨δ, μ, ι, rs, RR.bnd (trunc_read rs q) fun d μ1 v H1 ι1 x1 p1 rs1 dx q => frz_read rs1 dx q⟩
end
end SZ
end
section
/-! SZ, part EG: dicts walked by their keys, get, setdefault, a dict from here on as it is. -/
namespace SZ
open PySem PySem.Spec PyProof.Rows L2
/-- the keys of a dict whose keys are tuples -/
def Itn (G : Glo) (d : Addr) (o : Obj) (xs : List (NestedKey × Addr × Value)) : It :=
  ⟨fun i H => H d = some (.frz o (DN G d xs)) ∧ i < xs.length, fun i H x H' => H' = H ∧ ∃ y, xs[i]? = some y ∧ x = .ref y.2.1, fun i H => H d = some (.frz o (DN G d xs)) ∧ xs.length ≤ i⟩
theorem frzN {X : Cx} {pins : List (Addr × Obj)} {σ : L2.St} {H : Hp} {s : Shared} {G : Glo} {d : Addr} {o : Obj} {xs : List (NestedKey × Addr × Value)} (I : Inv X pins σ H s) (h : H d = some (.frz o (DN G d xs))) :
    (d == sysModules) = false ∧ s.heap.get? d = some o ∧ o.ExactDict ∧ ∃ es ep, o.data = .dict es ep ∧ es.size = xs.length ∧ es.toList = xs.map (entryOfKey (nestedKind G.P G.w)) := by
  obtain ⟨g, φ⟩ := I.hok d _ h
  obtain ⟨⟨z, hl, hd, o', es, ep, g1, g2, g3, g4, g5⟩, _⟩ := φ
  rw [g] at g1
  cases g1
  refine ⟨z, g, g2, es, ep, g3, ?_, g4⟩
  have := congrArg List.length g4
  simpa using this
section
variable {P : Program} {w : World} {K : PySem.W.Frag} {tg : Expr} {d : Addr} {o : Obj} {es : Array DictEntry} {ep : Nat} {G : Glo}
theorem turn_keysN {xs : List (NestedKey × Addr × Value)} (it : Addr) (hod : o.data = .dict es ep) : Turn P w K tg (Itn G d o xs) [it] it (fun i h => h.IsKeyIter it d i xs.length ep) where
  mem := by simp
  obj := fun i h st b hb => by
    have e : b = it := by simpa using hb
    subst e
    obtain ⟨oi, e, c, dd⟩ := st
    exact ⟨oi, e, fun v z => by rw [dd] at z; cases z⟩
  keep := fun i h h' st k => st.at fun oi e => k it (by simp) oi e
  item := by
    intro X hP hw hK hc i pins s σ H E I hf st hg
    subst hP hw hK
    obtain ⟨hd, hi⟩ := hg
    obtain ⟨f0, f1, f2, f3, f4, f5⟩ := hf it (by simp)
    obtain ⟨hs, hgd, hx, es', ep', hdt, hsz, ent⟩ := frzN I hd
    obtain ⟨rfl, rfl⟩ := dict_ep hod hdt
    obtain ⟨y, hy⟩ : ∃ y, xs[i]? = some y := ⟨xs[i], List.getElem?_eq_getElem hi⟩
    have hen : es'[i]? = some (entryOfKey (nestedKind G.P G.w) y) := by
      rw [← Array.getElem?_toList, ent, List.getElem?_map, hy]; rfl
    refine next_key_item st hgd hdt hsz hen fun h' st' sb => ?_
    have I1 : Inv X pins σ H { s with heap := h' } := I.turned (t' := s.toks) (fun b ob hb e => (sb.2 b hb).trans e) f0 f1 f3 f4 f5
    obtain ⟨oi, e, c, dd⟩ := id st'
    exact ⟨_, rfl, go_of (s := { s with heap := h' }) e c dd (by decide) ⟨.ref y.2.1, H, I1, rfl, ⟨rfl, y, hy, rfl⟩, st', fun b hb => (hf b hb).1⟩⟩
  done := by
    intro X hP hw hK hc i pins s σ H E I hf st hg
    subst hP hw hK
    obtain ⟨hd, hi⟩ := hg
    obtain ⟨f0, f1, f2, f3, f4, f5⟩ := hf it (by simp)
    obtain ⟨hs, hgd, hx, es', ep', hdt, hsz, ent⟩ := frzN I hd
    obtain ⟨rfl, rfl⟩ := dict_ep hod hdt
    exact next_key_end (I.ok.hd hc) st hgd hdt hsz hi fun h' eb => ⟨rfl, I.turned (t' := s.toks) (fun b ob hb e => eb b ob hb e) f0 f1 f3 f4 f5⟩
  self := fun A i s Q E st h => by
    refine wpAny_pyIter_slot st.typeIs F.slot_dict_keyiterator_iter (wpAny_call_entry F.slot_dict_keyiterator_iter st.typeIs F.entry_dict_keyiterator_iter ?_ (F.args_dict_keyiterator_iter_1 _))
    show wpAny _ _ (ret (.ref it)) _ _ s
    exact wpAny_pure ⟨_, rfl, "dict_keyiterator", _, st.typeIs, F.slot_dict_keyiterator_next.lookup, h⟩
end
def iKeysA (G : Glo) (td : TE) : TI := fun σ H R => td σ H fun x H1 => ∃ d o, x = .ref d ∧ ((∃ kvs, H1 d = some (.frz o (.dK kvs)) ∧ R (Itk d o kvs) H1) ∨ ∃ xs, H1 d = some (.frz o (DN G d xs)) ∧ R (Itn G d o xs) H1)
theorem pi_keysA {X : Cx} {G : Glo} {tg e : Expr} {td : TE} (he : PE X e td) : PI X tg e (iKeysA G td) := by
  refine ⟨fun pins s σ H R I h => ?_⟩
  refine thn (he.run pins s σ H _ I h) fun u s1 ⟨x, H1, I1, rx, d, o, ex, q⟩ => ?_
  subst ex
  obtain rfl : u = Value.ref d := rx
  rcases q with ⟨kvs, hd, q⟩ | ⟨kvs, hd, q⟩
  · obtain ⟨hs, hgd, hx, es, ep, vs, hdt, hsz, kv, hm⟩ := I1.frzK hd
    refine iter_keys hs hgd hx hdt (pi_one (tk := s1.toks) I1 _ (turn_keys _ hdt) ⟨_, Heap.get?_push_size _ rfl, rfl, ?_⟩ q)
    rw [hsz] <;> rfl
  · obtain ⟨hs, hgd, hx, es, ep, hdt, hsz, ent⟩ := frzN I1 hd
    refine iter_keys hs hgd hx hdt (pi_one (tk := s1.toks) I1 _ (turn_keysN _ hdt) ⟨_, Heap.get?_push_size _ rfl, rfl, ?_⟩ q)
    rw [hsz] <;> rfl
section
variable {k : Nat} {X : Cx} {G : Glo} {W : WX} {a b c o : Expr} {fa fb fc fe fo : EF} {ta tb ft : TF} {pos p apos : Pos} {es : List Expr} {fs : AF}
theorem wk_keysK {d : Addr} {o : Obj} {kvs : List (Key × V)} {ks : List D} : WkOk G (Itk d o kvs) (fun _ => true) ks (fun H ι => H d = some (.frz o (.dK kvs)) ∧ DVs G H ι ks (kvs.map fun p => kV p.1)) := fun σ H δ μ ι rs b hc => by
  obtain ⟨b1, b2⟩ := b
  have hl := b2.length
  rw [List.length_map] at hl
  refine ⟨⟨b1, Nat.le_of_eq hl.symm⟩, fun i d' hi => ?_⟩
  obtain ⟨v, hv, dv⟩ := b2.get hi
  rw [List.getElem?_map, Option.map_eq_some_iff] at hv
  obtain ⟨kv, h1, rfl⟩ := hv
  refine ⟨⟨b1, (List.getElem?_eq_some_iff.mp h1).1⟩, fun x H' y => ?_⟩
  obtain ⟨rfl, k', v', h2, rfl⟩ := y
  rw [h1] at h2
  cases h2
  exact ⟨.refl, rs, dv⟩
theorem wk_keysN {d : Addr} {o : Obj} {xs : List (NestedKey × Addr × Value)} {ks : List D} : WkOk G (Itn G d o xs) (fun _ => true) ks (fun H ι => H d = some (.frz o (DN G d xs)) ∧ DVs G H ι ks (xs.map fun x => .ref x.2.1)) := fun σ H δ μ ι rs b hc => by
  obtain ⟨b1, b2⟩ := b
  have hl := b2.length
  rw [List.length_map] at hl
  refine ⟨⟨b1, Nat.le_of_eq hl.symm⟩, fun i d' hi => ?_⟩
  obtain ⟨v, hv, dv⟩ := b2.get hi
  rw [List.getElem?_map, Option.map_eq_some_iff] at hv
  obtain ⟨kv, h1, rfl⟩ := hv
  refine ⟨⟨b1, (List.getElem?_eq_some_iff.mp h1).1⟩, fun x H' y => ?_⟩
  obtain ⟨rfl, y, h2, rfl⟩ := y
  rw [h1] at h2
  cases h2
  exact ⟨.refl, rs, dv⟩
theorem di_keys {tg : Expr} (h : DE k X G W a fa) : DI k X G W tg a (iKy fa) := fun cc =>
  piI (pi_keysA (G := G) (h cc)) fun σ H R ⟨δ, μ, ι, rs, q⟩ => ⟨δ, μ, ι, rs, RR.bnd q fun d μ1 x H1 ι1 x1 p1 rs1 dx q => by
    cases d with
    | dic t ks vs =>
      cases t with
      | false =>
        obtain ⟨ad, ob, rfl, kvs, e, r1, r2⟩ := dx
        exact ⟨ad, ob, rfl, .inl ⟨kvs, e, q.now rs1 ⟨_, ⟨e, r1⟩, fun H H' ι ι' x p b => ⟨x.frzs _ _ _ b.1, DVs.mono x p _ _ b.2⟩, wk_keysK⟩⟩⟩
      | true =>
        obtain ⟨ad, ob, rfl, xs, ws, e, z, r1, r2, r3⟩ := dx
        exact ⟨ad, ob, rfl, .inr ⟨xs, e, q.now rs1 ⟨_, ⟨e, r1⟩, fun H H' ι ι' x p b => ⟨x.frzs _ _ _ b.1, DVs.mono x p _ _ b.2⟩, wk_keysN⟩⟩⟩
    | _ => exact q.elim⟩
/-- from here on the dict never changes -/
theorem ds_fz {st : Stmt} {f : SF} (i : Nat) (h : DS k X G W st f) : DS k X G W st (sFz i f) := fun cc => ⟨fun pins s σ H D I ⟨δ, μ, ι, rs, q⟩ => by
  unfold sFz at q
  split at q
  · rename_i n en
    split at q
    · rename_i t ks vs em
      obtain ⟨v, ev, ad, ea, rfl⟩ := rs.sl i _ en
      have q0 := q
      obtain ⟨u0, eu0, cu⟩ := (rs.hs.there em ea).chg
      have hfr : Frz u0 := by
        have mv := rs.hs.there em ea
        cases t with
        | false => obtain ⟨kvs, e1, _⟩ := mv; rw [e1] at eu0; cases eu0; trivial
        | true => obtain ⟨xs, ws, e1, _⟩ := mv; rw [e1] at eu0; cases eu0; trivial
      obtain ⟨ob, I'⟩ := freeze I eu0 hfr
      have xx : Ext H (upd H ad (.frz ob u0)) := Ext.upd_chg eu0 cu
      have dv : DV G (upd H ad (.frz ob u0)) ι (.dic t ks vs) (.ref ad) := by
        have mv := rs.hs.there em ea
        cases t with
        | false =>
          obtain ⟨kvs, e1, r1, r2⟩ := mv
          rw [e1] at eu0; cases eu0
          exact ⟨ad, ob, rfl, kvs, upd_same, DVs.mono xx (List.prefix_refl _) _ _ r1, DVs.mono xx (List.prefix_refl _) _ _ r2⟩
        | true =>
          obtain ⟨xs, ws, e1, z, r1, r2, r3⟩ := mv
          rw [e1] at eu0; cases eu0
          exact ⟨ad, ob, rfl, xs, ws, upd_same, z, DVs.mono xx (List.prefix_refl _) _ _ r1, r2, DVs.mono xx (List.prefix_refl _) _ _ r3⟩
      have rs1 := rs.ext xx (List.prefix_refl _) (rs.hs.frz em ea (.frz ob u0))
      have rs2 : RS G σ (upd H ad (.frz ob u0)) (δ.set i (some (.dic t ks vs))) (μ.set n none) ι := by
        have := rs1.set i dv
        have es : σ.set i (some (.ref ad)) = σ := by
          apply List.ext_getElem?
          intro j
          by_cases hj : i = j
          · subst hj
            rw [ev, List.getElem?_set_self (List.getElem?_eq_some_iff.mp ev).1]
          · rw [List.getElem?_set_ne hj]
        rwa [es] at this
      exact (h cc).run pins s σ _ D I' ⟨_, _, ι, rs2, SRR.at_ q xx (List.prefix_refl _)⟩
    · exact q.elim
  · exact (h cc).run pins s σ H D I ⟨δ, μ, ι, rs, q⟩
  · exact q.elim⟩
end
end SZ
end
section
/-! SZ, part EH: get, setdefault. -/
namespace SZ
open PySem PySem.Spec PyProof.Rows L2
section
variable {k : Nat} {X : Cx} {G : Glo} {W : WX} {a b c o : Expr} {fa fb fc fe fo : EF} {ta tb ft : TF} {pos p apos cpos : Pos} {es : List Expr} {fs : AF}
variable {pins : List (Addr × Obj)} {s : Shared} {σ : L2.St} {H : Hp} {δ : Sl} {μ : MH} {ι : List Addr}
theorem dict_is (hK : X.K = G.K) (I : Inv X pins σ H s) (rs : RS G σ H δ μ ι) {d : D} {v : V} (dx : DV G H ι d v) {ks vs : List D} (h : dicOf μ d = some (true, ks, vs)) :
    ∃ ad xs ws, v = .ref ad ∧ (ad == sysModules) = false ∧ xs.length ≤ sizeLine ∧ Rd H ad (DN G ad xs) ∧ s.heap.DictOfH (nestedKind G.P G.w) ad xs ∧ ks.map nk = xs.map (fun x => some x.1) ∧ DVs G H ι ks (xs.map fun x => .ref x.2.1) ∧ Vals ws (xs.map (·.2.2)) ∧ DVs G H ι vs ws := by
  cases d with
  | dic t ks' vs' =>
    cases h
    obtain ⟨ad, ob, rfl, xs, ws, e, z, r1, r2, r3⟩ := dx
    obtain ⟨g1, g2, g3⟩ := dn_of hK I (.inr ⟨ob, e⟩) z r1
    exact ⟨ad, xs, ws, rfl, g1, g2, .inr ⟨ob, e⟩, g3, z, r1, r2, r3⟩
  | ref n =>
    obtain ⟨ad, ea, rfl⟩ := dx
    simp only [dicOf] at h
    split at h
    · rename_i em
      cases h
      obtain ⟨xs, ws, e, z, r1, r2, r3⟩ := rs.hs.there em ea
      obtain ⟨g1, g2, g3⟩ := dn_of hK I (.inl e) z r1
      exact ⟨ad, xs, ws, rfl, g1, g2, .inl e, g3, z, r1, r2, r3⟩
    · cases h
  | _ => cases h
theorem isDicT_iff {μ : MH} {d : D} (h : isDicT μ d = true) : ∃ ks vs, dicOf μ d = some (true, ks, vs) := by
  unfold isDicT at h
  split at h
  · exact ⟨_, _, rfl⟩
  · split at h
    · rename_i ks vs e; exact ⟨ks, vs, by simp only [dicOf, e]⟩
    · cases h
  · cases h
theorem look_pair {q : NestedKey} {xs : List (NestedKey × Addr × Value)} {o : Option (Addr × Value)} (h : atKey xs q = o) : valueAt (pairsH xs) q = o.map (·.2) := by
  rw [valueAt_pairsH, h]
theorem de_get (ho : DE k X G W o fo) (ha : DE k X G W a fa) (hb : DE k X G W b fb) (m : M2 X o "get" apos a b cpos := by exact ⟨rfl, rfl, rfl, rfl⟩) : DE k X G W (.Call (.Attribute o "get" apos) [a, b] [] cpos) (eGet fo fa fb) := fun cc => by
  refine ⟨fun pins s σ H Q I ⟨δ, μ, ι, rs, q⟩ => ?_⟩
  have hu := cc.room.units
  have q1 : rE G W fo σ H fun x H1 => ∃ μ1 ι1 d, RS G σ H1 δ μ1 ι1 ∧ DV G H1 ι1 d x ∧ (∃ ks vs, dicOf μ1 d = some (true, ks, vs)) ∧ RR G W σ δ (DV G) H1 ι1 ((fa δ μ1).bind fun k μ => (fb δ μ).bind fun x μ => getD d k x μ) Q :=
    ⟨δ, μ, ι, rs, RR.bnd q fun d μ1 x H1 ι1 x1 p1 rs1 dx q => by
      by_cases hd : isDicT μ1 d = true
      · rw [if_pos hd] at q
        exact ⟨μ1, ι1, d, rs1, dx, isDicT_iff hd, q⟩
      · rw [if_neg hd] at q; exact q.elim⟩
  refine wpAny_Call_method m.base m.few m.line PySem.F.plainAttrs_dict PySem.F.slot_dict_get PySem.F.type_dict_get (thn ((ho cc).run pins s σ H _ I q1) fun u s1 ⟨x, H1, I1, rx, μ1, ι1, d, rs1, dx, ⟨ks, vs, hd⟩, q2⟩ => ?_)
  obtain ⟨ad, xs, ws, rfl, _, _, _, hD, _⟩ := dict_is cc.hK I1 rs1 dx hd
  obtain rfl : u = Value.ref ad := rx
  refine ⟨hD.typeIs, fun b e => ?_, ?_⟩
  · cases e
    obtain ⟨ob, es, ep, g1, g2, _⟩ := hD
    exact ⟨ob, g1, g2.2.1⟩
  rw [m.trees]
  have q3 : rE G W fa σ H1 fun y H2 => rE G W fb σ H2 fun z H3 => ∃ μ3 ι3 dk dz, RS G σ H3 δ μ3 ι3 ∧ DV G H3 ι3 d (.ref ad) ∧ DV G H3 ι3 dk y ∧ DV G H3 ι3 dz z ∧ RR G W σ δ (DV G) H3 ι3 (getD d dk dz μ3) Q :=
    ⟨δ, μ1, ι1, rs1, RR.bnd q2 fun dk μ2 y H2 ι2 x2 p2 rs2 dvk q => ⟨δ, μ2, ι2, rs2, RR.bnd q fun dz μ3 z H3 ι3 x3 p3 rs3 dvz q => ⟨μ3, ι3, dk, dz, rs3, DV.mono (x2.trans x3) (p2.trans p3) _ _ dx, DV.mono x3 p3 _ _ dvk, dvz, q⟩⟩⟩
  refine Calls.callWith_builtin rfl (Calls.evalArgs_plain (Calls.spliced_cons (thn ((ha cc).run pins s1 σ H1 _ I1 q3) fun iv s2 ⟨y, H2, I2, ry, q4⟩ =>
    Calls.spliced_cons (thn ((hb cc).run pins s2 σ H2 _ I2 q4) fun fv s3 ⟨z, H3, I3, rz, μ3, ι3, dk, dz, rs3, dv1, dv2, dv3, q5⟩ => Calls.spliced_nil ?_))))
  unfold getD at q5
  split at q5
  · rename_i ks3 vs3 e3
    cases hk : keyOf true dk with
    | none => rw [hk] at q5; exact q5.elim
    | some qk =>
      rw [hk] at q5
      simp only at q5
      obtain ⟨ad', xs3, ws3, e, hz, hlen, rd, hD3, f1, f2, f3, f4⟩ := dict_is cc.hK I3 rs3 dv1 e3
      cases e
      obtain ⟨bk, e1, e2, hnk, his⟩ := key_tup cc.hK I3 hk dv2 ry
      subst e1 e2
      rw [cc.hP, cc.hw]
      refine getOr_keyed (knd := nestedKind G.P G.w) (show X.A.in1.units + 8 < cLine by show X.A.units + 1 + 8 < cLine; omega) his hz ⟨xs3, hD3, rfl⟩ ?_
      rw [← cc.hP, ← cc.hw]
      rcases look_DN (q := qk) f1 f3 f4 with ⟨d', w', p', g1, g2, g3, g4⟩ | ⟨g1, g2⟩
      · rw [valueAt_pairsH, g2]
        rw [g1] at q5
        exact ⟨w', H3, I3.tok _, g3, q5.now rs3 g4⟩
      · rw [valueAt_pairsH, g2]
        rw [g1] at q5
        exact ⟨z, H3, I3.tok _, rz, q5.now rs3 dv3⟩
  · exact q5.elim
theorem de_setd (ho : DE k X G W o fo) (ha : DE k X G W a fa) (hb : DE k X G W b fb) (m : M2 X o "setdefault" apos a b cpos := by exact ⟨rfl, rfl, rfl, rfl⟩) : DE k X G W (.Call (.Attribute o "setdefault" apos) [a, b] [] cpos) (eSetd fo fa fb) := fun cc => by
  refine ⟨fun pins s σ H Q I ⟨δ, μ, ι, rs, q⟩ => ?_⟩
  have hu := cc.room.units
  have q1 : rE G W fo σ H fun x H1 => ∃ μ1 ι1 d, RS G σ H1 δ μ1 ι1 ∧ DV G H1 ι1 d x ∧ (∃ ks vs, dicOf μ1 d = some (true, ks, vs)) ∧ RR G W σ δ (DV G) H1 ι1 ((fa δ μ1).bind fun k μ => (fb δ μ).bind fun x μ => setdD d k x μ) Q :=
    ⟨δ, μ, ι, rs, RR.bnd q fun d μ1 x H1 ι1 x1 p1 rs1 dx q => by
      by_cases hd : isDicT μ1 d = true
      · rw [if_pos hd] at q
        exact ⟨μ1, ι1, d, rs1, dx, isDicT_iff hd, q⟩
      · rw [if_neg hd] at q; exact q.elim⟩
  refine wpAny_Call_method m.base m.few m.line PySem.F.plainAttrs_dict PySem.F.slot_dict_setdefault PySem.F.type_dict_setdefault (thn ((ho cc).run pins s σ H _ I q1) fun u s1 ⟨x, H1, I1, rx, μ1, ι1, d, rs1, dx, ⟨ks, vs, hd⟩, q2⟩ => ?_)
  obtain ⟨ad, xs, ws, rfl, _, _, _, hD, _⟩ := dict_is cc.hK I1 rs1 dx hd
  obtain rfl : u = Value.ref ad := rx
  refine ⟨hD.typeIs, fun b e => ?_, ?_⟩
  · cases e
    obtain ⟨ob, es, ep, g1, g2, _⟩ := hD
    exact ⟨ob, g1, g2.2.1⟩
  rw [m.trees]
  have q3 : rE G W fa σ H1 fun y H2 => rE G W fb σ H2 fun z H3 => ∃ μ3 ι3 dk dz, RS G σ H3 δ μ3 ι3 ∧ DV G H3 ι3 d (.ref ad) ∧ DV G H3 ι3 dk y ∧ DV G H3 ι3 dz z ∧ RR G W σ δ (DV G) H3 ι3 (setdD d dk dz μ3) Q :=
    ⟨δ, μ1, ι1, rs1, RR.bnd q2 fun dk μ2 y H2 ι2 x2 p2 rs2 dvk q => ⟨δ, μ2, ι2, rs2, RR.bnd q fun dz μ3 z H3 ι3 x3 p3 rs3 dvz q => ⟨μ3, ι3, dk, dz, rs3, DV.mono (x2.trans x3) (p2.trans p3) _ _ dx, DV.mono x3 p3 _ _ dvk, dvz, q⟩⟩⟩
  refine Calls.callWith_builtin rfl (Calls.evalArgs_plain (Calls.spliced_cons (thn ((ha cc).run pins s1 σ H1 _ I1 q3) fun iv s2 ⟨y, H2, I2, ry, q4⟩ =>
    Calls.spliced_cons (thn ((hb cc).run pins s2 σ H2 _ I2 q4) fun fv s3 ⟨z, H3, I3, rz, μ3, ι3, dk, dz, rs3, dv1, dv2, dv3, q5⟩ => Calls.spliced_nil ?_))))
  unfold setdD at q5
  split at q5
  · rename_i n
    split at q5
    · rename_i ks3 vs3 em
      cases hk : keyOf true dk with
      | none => rw [hk] at q5; exact q5.elim
      | some qk =>
        rw [hk] at q5
        simp only at q5
        obtain ⟨ad0, ea, e0⟩ := dv1
        cases e0
        obtain ⟨xs3, ws3, er, f1, f2, f3, f4⟩ := rs3.hs.there em ea
        obtain ⟨hz, hlen, hD3⟩ := dn_of cc.hK I3 (.inl er) f1 f2
        obtain ⟨bk, e1, e2, hnk, his⟩ := key_tup cc.hK I3 hk dv2 ry
        subst e1 e2
        rw [cc.hP, cc.hw]
        have hxl : xs3.length = ks3.length := by
          have := congrArg List.length f1
          simpa using this.symm
        refine call_setdefault_heap (knd := nestedKind G.P G.w) (hsz := hlen) (show X.A.in1.units + 8 < cLine by show X.A.units + 1 + 8 < cLine; omega) his hz hD3 (fun pp hp => ?_) fun hn h' dd' hs => ?_
        · rw [← cc.hP, ← cc.hw]
          rcases look_DN (q := qk) f1 f3 f4 with ⟨d', w', p', g1, g2, g3, g4⟩ | ⟨g1, g2⟩
          · rw [g2] at hp
            cases hp
            rw [g1] at q5
            exact ⟨w', H3, I3.tok _, g3, q5.now rs3 g4⟩
          · rw [g2] at hp; cases hp
        · rcases look_DN (q := qk) f1 f3 f4 with ⟨d', w', p', g1, g2, g3, g4⟩ | ⟨g1, g2⟩
          · rw [g2] at hn; cases hn
          · rw [g1] at q5
            simp only at q5
            by_cases hl : ks3.length < sizeLine
            · rw [if_pos hl] at q5
              obtain ⟨p1, p2, ws', p3, p4⟩ := put_DN hnk dv2 dv3 rz f1 f2 f3 f4
              have hdp : dput qk dk dz ks3 vs3 = (ks3 ++ [dk], vs3 ++ [dz]) := by
                unfold dput
                rw [g1]
                rfl
              rw [hdp] at p1 p2 p4
              have xx : Ext H3 (upd H3 ad (DN G ad (storedH xs3 qk bk fv))) := Ext.upd_chg er trivial
              obtain ⟨x4, rs4⟩ := RS.wr (m' := .dic true (ks3 ++ [dk]) (vs3 ++ [dz])) (o := DN G ad (storedH xs3 qk bk fv)) rs3 em ea ⟨_, ws', upd_same, p1, DVs.mono xx (List.prefix_refl _) _ _ p2, p3, DVs.mono xx (List.prefix_refl _) _ _ p4⟩
              obtain ⟨o, es, ep, k1, k2, k3, k4, k5, k6⟩ := dd'
              refine ⟨z, upd H3 ad (DN G ad (storedH xs3 qk bk fv)), ?_, rz, q5 _ _ ι3 x4 (List.prefix_refl _) rs4 (DV.mono x4 (List.prefix_refl _) _ _ dv3)⟩
              refine d_write I3 (by rw [er]; exact True.intro) hs ⟨o, k1⟩ (dnp_ok ⟨hz, ?_, fun y hy => (k5 y hy).2, o, es, ep, k1, k2, k3, k4, k6⟩)
              have := congrArg List.length p1
              simp only [List.length_map, List.length_append, List.length_singleton] at this
              omega
            · rw [if_neg hl] at q5; exact q5.elim
    · exact q5.elim
  · exact q5.elim
end
end SZ
end
section
/-! SZ, part EI: != by an own ==. -/
namespace SZ
open PySem PySem.Spec PyProof.Rows L2
section
variable {prog : Program} {w : World} {A A₀ : Around} {E : Value → Shared → Prop} {s : Shared} {K : PySem.W.Frag} {x C L f : Addr} {h₀ : Heap} {m : Str → Option Value} {ox : Obj} {od : Option Obj} {name : Str} {b tb : Value}
open PySem.W
theorem ifBound_Kb {M : Model} {id : String} {args : List Value} {Q : Option Value → Shared → Prop} (X : K.In s.heap) (I : InstAt s.heap x ox C od) (hs : findIn K (.ref C) name = some (some (.builtin id))) (S : Slot "object" name id)
    (h : wpAny M A (call (.builtin id) (.ref x :: args)) (fun v => Q (some v)) E s) : wpAny M A (callSpecialIfBound? (.ref x) name args) Q E s := by
  simp only [callSpecialIfBound?, bindSpecialIfBound?]
  refine wpAny_holding (wpAny_bind (wpAny_bind (wpAny_bind (I.type.here ((looks_findIn X hs).here ?_)))))
  simp only [S.bind]
  refine wpAny_bind (wpAny_askSetting (wpAny_ite ?_))
  have fin : wpAny M A (call (.builtin id) ([.ref x] ++ args) >>= fun v => pure (some v)) Q E s := wpAny_bind (wpAny_mono h (fun v s' h' => wpAny_pure h') fun _ _ h' => h')
  split
  · exact wpAny_bind (wpAny_pure (wpAny_pure fin))
  · exact wpAny_tryCatch (wpAny_bind (wpAny_pure (wpAny_pure fin)))
theorem objNe_K {y : Value} (hu : A.units < cLine) (X : K.In s.heap) (I : InstAt s.heap x ox C od) (hs : findIn K (.ref C) "__eq__" = some (some (.ref f))) (hf : isFn K (.ref f) = true) {Q : Fin → Shared → Prop}
    (h : wpAny (model prog w) A (call (.ref f) [.ref x, y]) (fun v s' => ∃ c, v = .bool c ∧ Q (.done (.ret (.bool (!c)))) s') E s) : wpAny (model prog w) A (Builtin.«object.__ne__» ⟨[.ref x, y], []⟩) Q E s := by
  unfold Builtin.«object.__ne__»
  repeat (first
    | with_reducible refine wpAny_cRoomFor hu ?_
    | (refine wpAny_bind (m := callSpecialIfBound? (.ref x) (Str.ofString "__eq__") [y])
        (ifBound_K X I hs hf (wpAny_mono h (fun r s' hr => by
          obtain ⟨c, rfl, hq⟩ := hr
          repeat (first | exact hq | exact wpAny_pure hq | exact wpAny_truthy_bool hq | (refine wpAny_bind (m := truthy (.bool _)) (wpAny_truthy_bool ?_)) | wp_step)) fun _ _ e => e)))
    | wp_step)
theorem ne_K {Q : Value → Shared → Prop} (hu : A.units + 1 < cLine) (F : Fr h₀ L s.heap m) (X₀ : K.In h₀) (I : InstAt s.heap x ox C od) (hb : Looks (model prog w) s.heap (typeOf b) tb) (hn : notFirst K C tb = true)
    (hsn : findIn K (.ref C) "__ne__" = some (some (.builtin "object.__ne__"))) (hm : mroIn K C (.type "object") = some true) (hs : findIn K (.ref C) "__eq__" = some (some (.ref f))) (hf : isFn K (.ref f) = true)
    (h : wpAny (model prog w) A.in1 (call (.ref f) [.ref x, b]) (fun v s' => ∃ c, v = .bool c ∧ Q (.bool (!c)) s') E s) : wpAny (model prog w) A (richCompare .NotEq (.ref x) b) Q E s := by
  have X := X₀.keeps F.keep
  have L0 := I.type (M := model prog w)
  have L1 := looks_mroIn (M := model prog w) X hm
  have hcall : wpAny (model prog w) A (call (.builtin "object.__ne__") [.ref x, b]) (fun v s' => v ≠ .notImplemented ∧ Q v s') E s := by
    refine wpAny_call (codeAny_call_builtin PySem.F.cmp_object.ne.plain PySem.F.cmpEntry_ne ?_)
    refine check_slot PySem.F.cmpKind_ne PySem.F.cmpSplit_ne (L0.andThen L1) (PySem.F.cmpArgs_ne _ _) ?_
    refine objNe_K (A := A.in1) (by show A.units + 1 < cLine; omega) X I hs hf (wpAny_mono h (fun v s' hv => ?_) fun _ _ e => e)
    obtain ⟨c, rfl, hq⟩ := hv
    exact ⟨c, rfl, nofun, hq⟩
  have one : wpAny (model prog w) A (tryCompare (.ref x) (cmpInfo .NotEq).2.1 b) (fun r s' => ∃ v, r = some v ∧ Q v s') E s := by
    unfold tryCompare
    refine wpAny_bind (ifBound_Kb X I hsn PySem.F.cmp_object.ne (wpAny_mono hcall (fun v s' hv => ?_) fun _ _ e => e))
    cases v <;> first | exact absurd rfl hv.1 | exact wpAny_pure ⟨_, rfl, hv.2⟩
  unfold richCompare
  simp only [oneThing_ref]
  refine wpAny_holding (wpAny_bind (wpAny_cRoomFor (by omega) ?_))
  refine wpAny_bind (I.type.here (wpAny_bind (hb.here ?_)))
  split
  · rename_i q
    have e : subIn K tb (.ref C) = some false := by
      rcases Bool.or_eq_true_iff.mp hn with e | e
      · rw [beq_iff_eq.mp e] at q; simp at q
      · exact beq_iff_eq.mp e
    refine wpAny_bind ((looks_subIn X e).here ?_)
    simp only [Bool.false_eq_true, if_false]
    refine wpAny_bind (wpAny_mono one (fun r s' z => ?_) fun _ _ e => e)
    obtain ⟨v, rfl, hq⟩ := z
    exact wpAny_pure hq
  · refine wpAny_bind (wpAny_pure ?_)
    simp only [Bool.false_eq_true, if_false]
    refine wpAny_bind (wpAny_mono one (fun r s' z => ?_) fun _ _ e => e)
    obtain ⟨v, rfl, hq⟩ := z
    exact wpAny_pure hq
end
section
variable {k : Nat} {X : Cx} {G : Glo} {W : WX} {a b c o : Expr} {fa fb fc fe fo : EF} {ta tb ft : TF} {pos p apos : Pos} {es : List Expr} {fs : AF}
/-- .. and its != is object's -/
structure NeOk (G : Glo) (base : Heap) (k : Nat) (c : Nat) (F : FF) : Prop where
  eq : EqOk G base k c F
  ne : ∀ C ns, G.cl c = some (C, ns) → PySem.W.findIn G.K (.ref C) "__ne__" = some (some (.builtin "object.__ne__")) ∧ PySem.W.mroIn G.K C (.type "object") = some true
theorem od_neO {c j : Nat} {F : FF} (T : NeOk G X.base j c F) (hj : j + 1 ≤ k := by omega) : OpD k X G W (compareOp .NotEq) (neO c F) := fun cc pins s σ H δ μ ι d e x y v u Q I rx ry rs dx dy q => by
  unfold neO eqO at q
  cases h1 : insOf μ d with
  | none =>
    simp only [h1] at q
    refine od_ne cc pins s σ H δ μ ι d e x y v u Q I rx ry rs dx dy ?_
    unfold eqD at q ⊢
    cases g1 : pyM μ d with
    | none => simp only [g1] at q; exact q.elim
    | some p1 =>
      cases g2 : pyM μ e with
      | none => simp only [g1, g2] at q; exact q.elim
      | some p2 =>
        simp only [g1, g2] at q ⊢
        by_cases hd : min p1.depth p2.depth ≤ 64
        · rw [if_pos hd] at q ⊢; exact q
        · rw [if_neg hd] at q; exact q.elim
  | some cv =>
    obtain ⟨c', vs⟩ := cv
    simp only [h1] at q
    by_cases hc : c' = c
    · rw [if_pos hc] at q
      obtain ⟨C, f, ns, hcl, hs, hf, D, hn⟩ := T.eq.ex
      obtain ⟨hsn, hmr⟩ := T.ne C ns hcl
      obtain ⟨fd, ps, F0, hps, hk, hb⟩ := D.ex
      have F1 : FnOk X.prog X.w X.K X.mg X.base (L2.CX X.prog X.w) j f fd ps (spD G 2 F) := by rw [cc.hP, cc.hw, cc.hK, cc.hm]; exact F0
      obtain ⟨ad, C', dd, gs, ns', ex, rd, hcl', hn', dl⟩ := ins_view rs dx h1
      rw [hc, hcl] at hcl'
      cases hcl'
      subst ex
      cases rx
      obtain ⟨mA, O, _⟩ := ins_getR I rd
      obtain ⟨od, J, _⟩ := O.look
      obtain ⟨m, hF⟩ := I.fr
      rw [← cc.hK] at hs hf hn hsn hmr
      have fin : ∀ {uy : Value} {tb : Value}, L2.RelV y uy → PySem.W.Looks (model X.prog X.w) s.heap (typeOf uy) tb → PySem.W.notFirst X.K C tb = true → RR G W σ δ (DV G) H ι ((F [d, e] μ).bind fun d μ => match d with
            | .bl b => .ok (.bl (!b)) μ
            | _ => .no) Q →
          wpAny (model X.prog X.w) X.A (richCompare .NotEq (.ref ad) uy) (EP X pins σ Q) X.xe s := fun {uy tb} ry hb' hnf q => by
        have hu := cc.room.units
        refine ne_K (tb := tb) (by omega) hF I.ok.mod.kin J hb' hnf hsn hmr hs hf ?_
        have q' : RR G W σ δ (DV G) H ι (F [d, e] μ) fun v2 H2 => ∃ c, v2 = .bl c ∧ Q (.bl (!c)) H2 := RR.bnd q fun z μ2 vz H2 ι2 x2 p2 rs2 dz q => by
          cases z with
          | bl b => exact ⟨b, dz, q.now rs2 rfl⟩
          | _ => exact q.elim
        have hr : Room j X.A.in1 := (cc.room.mono hj).in1
        have sp : spD G 2 F [.ref ad, y] H (fun v2 H2 => ∃ c, v2 = .bl c ∧ Q (.bl (!c)) H2) (WE W σ) := fn_read D.ln rs (DVs.cons dx (DVs.cons dy (show DVs G H ι [] [] from rfl))) q'
        have hl : ([Value.ref ad, uy]).length = ps.length := F1.len _ _ _ _ sp
        refine wpAny_call (codeAny_mono (F1.run X.A.in1 X.stack s H ⟨[.ref ad, uy], []⟩ [.ref ad, uy] [.ref ad, y] _ _ hr I.env0.in1 (by rw [cc.hK] at *; exact hb s [.ref ad, uy] (by rw [← cc.hK]; exact I.kIn) hl) (.cons rfl (.cons ry .nil)) sp) fun r s' hq => ?_)
        cases r with
        | error er => exact passAt cc.tk σ pins H s er s' I hq
        | ok fl =>
          cases fl with
          | ret u2 =>
            obtain ⟨z1, H', I', rz, c, ec, qz⟩ := I.after hq
            subst ec
            exact ⟨c, rz, .bl (!c), H', I', rfl, qz⟩
          | next => exact False.elim hq
          | brk => exact False.elim hq
          | cont => exact False.elim hq
      show wpAny (model X.prog X.w) X.A (richCompare .NotEq (.ref ad) u) (EP X pins σ Q) X.xe s
      cases e <;> first | exact q.elim | skip
      · obtain ⟨ay, ys, rfl, sq, _⟩ := dy
        cases ry
        rw [← cc.hK] at sq
        obtain ⟨its, r, ⟨oo, e1, e2, _⟩, _⟩ := I.tuple sq
        refine fin (tb := .type "tuple") rfl ?_ hn q
        have : PySem.W.Looks (model X.prog X.w) s.heap (typeOf (.ref ay)) oo.cls := (PySem.W.Looks.ld e1).andThen .now
        have e3 : oo.cls = .type "tuple" := by first | exact e2 | exact e2.1
        rw [e3] at this
        exact this
      · rename_i c2 vs2
        by_cases hc2 : c2 = c
        · simp only [if_pos hc2] at q
          obtain ⟨ad2, C2, dd2, gs2, ns2, ey, rd2, hcl2, _, _⟩ := ins_view rs dy (c := c2) (vs := vs2) rfl
          rw [hc2, hcl] at hcl2
          cases hcl2
          subst ey
          cases ry
          obtain ⟨mA2, O2, _⟩ := ins_getR I rd2
          obtain ⟨od2, J2, _⟩ := O2.look
          exact fin (tb := .ref C) rfl J2.type (by unfold PySem.W.notFirst; simp) q
        · simp only [if_neg hc2] at q; exact q.elim
    · rw [if_neg hc] at q; exact q.elim
end
end SZ
end
section
/-! SZ, part EJ: further operations. -/
namespace SZ
open PySem PySem.Spec PyProof.Rows L2
section
variable {k : Nat} {X : Cx} {G : Glo} {W : WX} {a b c o : Expr} {fa fb fc fe fo : EF} {ta tb ft : TF} {pos p apos : Pos} {es : List Expr} {fs : AF}
theorem od_addM : OpD k X G W (binaryOp .Add) addM := fun cc pins s σ H δ μ ι d e x y v u Q I rx ry rs dx dy q => by
  unfold addM at q
  cases h1 : lstOf μ d with
  | none => simp only [h1] at q; exact q.elim
  | some l =>
    cases h2 : lstOf μ e with
    | none => simp only [h1, h2] at q; exact q.elim
    | some m =>
      simp only [h1, h2] at q
      by_cases hl : l.length + m.length ≤ sizeLine
      · rw [if_pos hl] at q
        obtain ⟨p1, vs, rfl, s1, d1⟩ := lst_view rs dx h1
        obtain ⟨p2, ws, rfl, s2, d2⟩ := lst_view rs dy h2
        exact op_catL pins s σ H _ _ v u Q I rx ry ⟨p1, p2, vs, ws, rfl, rfl, by rw [cc.hK]; exact s1, by rw [cc.hK]; exact s2, by rw [← d1.length, ← d2.length]; exact hl, fun p hp => q.newM rs hp ⟨_, upd_same, DVs.mono (Ext.upd_free hp) (List.prefix_append _ _) _ _ (d1.append d2)⟩⟩
      · rw [if_neg hl] at q; exact q.elim
end
end SZ
end
section
/-! SZ, part EK: sorted of a dict, a list of a range, a dict against {}. -/
namespace SZ
open PySem PySem.Spec PyProof.Rows L2
section
variable {k : Nat} {X : Cx} {G : Glo} {W : WX} {a b c o : Expr} {fa fb fc fe fo : EF} {ta tb ft : TF} {pos p p2 pos2 apos : Pos} {es : List Expr} {fs : AF}
variable {pins : List (Addr × Obj)} {s : Shared} {σ : L2.St} {H : Hp} {ι : List Addr}
theorem vals_rel : ∀ {l : List D} {ys : List V} {us : List Value}, DVs G H ι l ys → Vals ys us → l.length = us.length
  | [], _, _, rfl, .nil => rfl
  | d :: l, _, _, ⟨v, r, rfl, h, t⟩, .cons _ t2 => by rw [List.length_cons, List.length_cons, vals_rel t t2]
theorem vals_N (G : Glo) : ∀ xs : List (NestedKey × Addr × Value), Vals (xs.map fun x => V.ref x.2.1) ((xs.map (entryOfKey (nestedKind G.P G.w))).map (·.key))
  | [] => .nil
  | x :: xs => .cons rfl (vals_N G xs)
theorem vals_K {P : Program} {w : World} : ∀ {es : List DictEntry} {kvs : List (Key × V)} {vs : List (Key × Value)}, Pairs (mixKind P w) es vs → KV kvs vs → Vals (kvs.map fun p => kV p.1) (es.map (·.key))
  | _, _, _, .nil, h => by cases h; exact .nil
  | _, _, _, .cons h1 h2 t, h => by
    cases h with
    | cons g t2 =>
      refine .cons ?_ (vals_K t t2)
      have g1 := g.1
      show RelV (kV _) _
      rw [g1]
      rcases keyIs_shape h1 with ⟨i, u, ek, ev⟩ | ⟨z, u, ek, ev⟩
      · show RelV _ (DictEntry.key _)
        rw [ek, ev]; exact ⟨u, rfl⟩
      · show RelV _ (DictEntry.key _)
        rw [ek, ev]; exact ⟨u, rfl⟩
/-- what a frozen dict holds, raw -/
theorem frz_raw (I : Inv X pins σ H s) {t : Bool} {ks vs : List D} {v : V} (dx : DV G H ι (.dic t ks vs) v) : ∃ (d : Addr) (ob : Obj) (es : Array DictEntry) (ep : Nat) (ys : List V), v = .ref d ∧ (d == sysModules) = false ∧ s.heap.get? d = some ob ∧ ob.ExactDict ∧ ob.data = .dict es ep ∧ DVs G H ι ks ys ∧ Vals ys (es.toList.map (·.key)) := by
  cases t with
  | false =>
    obtain ⟨ad, ob, rfl, kvs, e, r1, r2⟩ := dx
    obtain ⟨hs, hgd, hx, es, ep, vs', hdt, hsz, kv, o2, es2, g1, g2, g3, g4, g5, g6⟩ := I.frzK e
    rw [hgd] at g1
    cases g1
    rw [hdt] at g3
    cases g3
    exact ⟨ad, ob, es, ep, _, rfl, hs, hgd, hx, hdt, r1, vals_K g5 kv⟩
  | true =>
    obtain ⟨ad, ob, rfl, xs, ws, e, z, r1, r2, r3⟩ := dx
    obtain ⟨hs, hgd, hx, es, ep, hdt, hsz, ent⟩ := frzN I e
    refine ⟨ad, ob, es, ep, _, rfl, hs, hgd, hx, hdt, r1, ?_⟩
    rw [ent]
    exact vals_N G xs
theorem keys_of {acc : Array Value} {es : Array DictEntry} (h : ItemsOf (fun i v => ∃ en : DictEntry, es[i]? = some en ∧ v = en.key) acc es.size) : acc.toList = es.toList.map (·.key) := by
  apply List.ext_getElem?
  intro j
  rw [List.getElem?_map]
  cases hj : acc.toList[j]? with
  | none =>
    have h1 := List.getElem?_eq_none_iff.mp hj
    rw [Array.length_toList, h.1] at h1
    rw [List.getElem?_eq_none (by simpa using h1)]
    rfl
  | some v =>
    obtain ⟨en, hen, hv⟩ := h.2 j v (by rw [← Array.getElem?_toList]; exact hj)
    rw [Array.getElem?_toList, hen, hv]
    rfl
theorem each_keep {h h' : Heap} {l : List D} {us : List Value} (k : ∀ b o, h.get? b = some o → h'.get? b = some o) : PySem.W.EachIs (fun u d => ∃ as, Reads h u (pyO d) as) us l → PySem.W.EachIs (fun u d => ∃ as, Reads h' u (pyO d) as) us l
  | h => h.mono fun _ _ ⟨as, r⟩ => ⟨as, PyProof.Rows.Reads.keeps k r⟩
theorem ca_srtK : CaD k X G W (.builtin "sorted") srtK := fun cc pins s σ H δ μ ι ds vs us Q I rv rs dv q => by
  unfold srtK at q
  split at q
  · rename_i t ks ws
    obtain ⟨v, rfl, dx⟩ := dvs1 dv
    cases e2 : srtL ks with
    | none => simp only [e2] at q; exact q.elim
    | some r =>
      simp only [e2] at q
      unfold srtL at e2
      cases e3 : pys ks with
      | none => simp only [e3] at e2; cases e2
      | some ps =>
        simp only [e3] at e2
        by_cases hc : sortOk ps = true ∧ ks.length ≤ sizeLine
        · rw [if_pos hc] at e2
          cases e2
          obtain ⟨f1, f2, f3⟩ := sortOk_facts hc.1
          obtain ⟨d, ob, es, ep, ys, rfl, lo, hgd, hx, hdt, dl, rl⟩ := frz_raw I dx
          obtain ⟨u, rfl, ru⟩ := vals1 rv
          obtain rfl : u = Value.ref d := ru
          have hps := pys_map e3
          have hp := pys_at e3
          have hsz : es.size = ks.length := by
            have := vals_rel dl rl
            rw [List.length_map, Array.length_toList] at this
            exact this.symm
          refine Calls.call_function_entry PyProof.Rows.kind_sorted PyProof.Rows.plain_sorted PyProof.Rows.entry_sorted (PyProof.Rows.args_sorted1 _) ?_
          unfold Builtin.«sorted»
          refine wpAny_bind (m := checkCount "sorted" 1 1 _) (wpAny_pure ?_)
          refine wpAny_bind (PySem.W.kdu_collect (A := X.A.in1) (kdl_raw lo hx hdt) (I.ok.hd cc.calm) hgd (by rw [hsz]; exact hc.2) fun h' tk acc hk hacc => ?_)
          have ea := keys_of hacc
          have I1 : Inv X pins σ H { s with heap := h', toks := tk } := I.kept hk
          have rs1 := rs
          rw [← ea] at rl
          have hal : acc.toList.length = ks.length := (vals_rel dl rl).symm
          have er : PySem.W.EachIs (fun u d => ∃ as, Reads h' u (pyO d) as) acc.toList ks := each_reads cc.hK I1 hp dl rl
          have hL : (h'.push (seqObj "list" acc.toList.toArray 0)).get? h'.objs.size = some (seqObj "list" acc.toList.toArray 0) := Heap.get?_push_size _ rfl
          refine wpAny_bind (wpAny_newList ?_ (by rw [hal]; exact hc.2))
          show wpAny _ _ _ _ _ { s with heap := h'.push (seqObj "list" acc.toList.toArray 0), toks := tk }
          have old : ∀ b o, h'.get? b = some o → (PySem.W.sortingHeap (h'.push (seqObj "list" acc.toList.toArray 0)) h'.objs.size acc.toList).get? b = some o := fun b o e => PySem.W.sortingHeap_old (Nat.ne_of_lt (Heap.lt_size e)) (Heap.get?_push_of_some _ e)
          have er' := each_keep old er
          refine wpAny_bind (wpAny_holding (wpAny_call_entry PyProof.Rows.slot_list_sort ⟨_, hL, rfl⟩ PyProof.Rows.entry_list_sort
            (PySem.W.list_sort_vals (s := { s with heap := h'.push (seqObj "list" acc.toList.toArray 0), toks := tk }) (κ := PySem.W.dataKind (PySem.W.sortingHeap (h'.push (seqObj "list" acc.toList.toArray 0)) h'.objs.size acc.toList) (ks.map pyO)) hL (PySem.W.SortsAt.data (s := { s with heap := PySem.W.sortingHeap (h'.push (seqObj "list" acc.toList.toArray 0)) h'.objs.size acc.toList, toks := tk }) (PySem.W.each_map (R := fun v d => ∃ as, Reads (PySem.W.sortingHeap (h'.push (seqObj "list" acc.toList.toArray 0)) h'.objs.size acc.toList) v d as) pyO er') (by rw [hps]; exact f1) (by rw [hps]; exact f2) (PySem.W.bound_map fun b hb => ?_)) (by rw [hal]; exact hc.2) ⟨.none, rfl, ?_⟩) (PyProof.Rows.args_list_sort _)))
          · have := f3 (pyO b) (by rw [← hps]; exact List.mem_map.mpr ⟨b, hb, rfl⟩)
            have := cc.room.units
            show X.A.units + 1 + 1 + _ < _
            omega
          · obtain ⟨out, ho, he⟩ : ∃ out : List Value, out.length = ks.length ∧ PySem.W.sortVals (PySem.W.dataKind (PySem.W.sortingHeap (h'.push (seqObj "list" acc.toList.toArray 0)) h'.objs.size acc.toList) (ks.map pyO)) false acc.toList acc.toList = out ∧ PySem.W.EachIs (fun u d => ∃ v : V, RelV v u ∧ DV G H ι d v) out (ks.mergeSort (PySem.W.dataLe false pyO)) :=
              ⟨_, by rw [PySem.W.sortVals_length false rfl]; exact hal, rfl, PySem.W.sortVals_data false (each_of dl rl) er' (by rw [hps]; exact f1)⟩
            obtain ⟨e1, he⟩ := he
            rw [e1]
            obtain ⟨ws, w1, w2⟩ := each_back he
            obtain ⟨e', he'⟩ := PyProof.Rows.sortedHeap_at (vs := acc.toList) (out := out.toArray) hL
            refine wpAny_pure ⟨_, rfl, FQ.ep ⟨.ref _, upd H h'.objs.size (.lst ws), I1.laid (t' := tk) (fun b u e => ?_) (Nat.le_refl _) (show ObjOk X.prog X.w _ _ _ (.lst ws) from ⟨?_, out, e', w1, he'⟩), rfl, q.newL rs (I1.hok.fresh (Nat.le_refl _)) w2⟩⟩
            · have hb : b < h'.objs.size := Heap.lt_size e
              rw [PyProof.Rows.sortedHeap_old (Nat.ne_of_lt hb) (by rw [size_push']; exact Nat.lt_succ_of_lt hb)]
              exact Heap.get?_push_of_some _ e
            · rw [w1.length, ho]
              exact hc.2
        · rw [if_neg hc] at e2; cases e2
  · exact q.elim
theorem de_srtK {fs : AF} (ha : DA k X G W (a :: es) fs) (hm : G.mg "sorted" = none) (hg : Gl X "sorted" := by rfl) (he : starEach (a :: es) X.env = (false, eval a X.env) :: starEach es X.env := by rfl) (hpl : (backTo pos (starEach es X.env)).any (·.1) = false := by rfl) :
    DE k X G W (.Call (.Name "sorted" p) (a :: es) [] pos) (eSrtK fs) := de_cb ca_srtK hm PyProof.Rows.boot_sorted ha hg (by decide) (by decide) he hpl
theorem de_lsR (ha : DE k X G W a fa) (hm : G.mg "list" = none) (hm2 : G.mg "range" = none) (hg : Gl X "list" := by rfl) (hg2 : Gl X "range" := by rfl) (na : starEach [a] X.env = (false, eval a X.env) :: starEach [] X.env := by rfl)
    (na2 : starEach [.Call (.Name "range" p2) [a] [] pos2] X.env = (false, eval (.Call (.Name "range" p2) [a] [] pos2) X.env) :: starEach [] X.env := by rfl) : DE k X G W (.Call (.Name "list" p) [.Call (.Name "range" p2) [a] [] pos2] [] pos) (eLsR (aCons fa aNil)) := fun cc =>
  peI (pe_frz (pe_listRg cc.calm hg (by rw [cc.hm]; exact hm) (prg_1 hg2 (by rw [cc.hm]; exact hm2) (ha cc) na) na2)) fun σ H Q ⟨δ, μ, ι, rs, q⟩ => by
    refine ⟨δ, μ, ι, rs, ?_⟩
    unfold eLsR aCons aNil at q
    have q' : RR G W σ δ (DV G) H ι ((fa δ μ).bind fun d μ => match [d] with
      | [D.int j] => if 0 ≤ j ∧ j ≤ 1000 then R.ok (.lst (rngD 0 j.toNat)) μ else .no
      | _ => .no) Q := by
      cases h : fa δ μ with
      | ok d μ1 =>
        simp only [h, R.bind] at q ⊢
        cases d <;> exact q
      | ex c ds μ1 => simpa only [h, R.bind] using q
      | no => simp only [h, R.bind] at q; exact q.elim
    refine RR.bnd q' fun d μ1 x H1 ι1 x1 p1 rs1 dx q => ?_
    cases d with
    | int j =>
      simp only at q
      by_cases hj : 0 ≤ j ∧ j ≤ 1000
      · rw [if_pos hj] at q
        refine ⟨j, dx, RgOk.of_le (by omega) (by omega) (by omega) (by omega), fun p hp => q.newL rs1 hp ?_⟩
        have : rgV 0 j = (List.range j.toNat).map fun (i : Nat) => V.int (0 + (i : Int)) := by unfold rgV; rw [Int.sub_zero]
        rw [this]
        unfold rngD
        generalize List.range j.toNat = l
        induction l with
        | nil => rfl
        | cons a l ih => exact ⟨_, _, rfl, rfl, ih⟩
      · rw [if_neg hj] at q; exact q.elim
    | _ => exact q.elim
end
section
variable {prog : Program} {w : World} {A : Around} {s : Shared} {E : Value → Shared → Prop}
/-- the entries of a, against an empty dict -/
theorem same_empty {nm : String} {a b : Addr} {oa ob : Obj} {es : Array DictEntry} {ep ep' : Nat} {Q : Bool → Shared → Prop} (ha : (a == sysModules) = false) (hb : (b == sysModules) = false)
    (hoa : s.heap.get? a = some oa) (hda : oa.data = .dict es ep) (hob : s.heap.get? b = some ob) (hdb : ob.data = .dict #[] ep') (h : Q (es.size == 0) s) :
    wpAny (model prog w) A (Builtin.Dict.samePairs nm a b) Q E s := by
  unfold Builtin.Dict.samePairs Builtin.Dict.showsAll
  rw [if_neg (show ¬ (a == sysModules) = true by rw [ha]; exact Bool.false_ne_true), if_neg (show ¬ (b == sysModules) = true by rw [hb]; exact Bool.false_ne_true)]
  refine wpAny_bind (wpAny_pure (wpAny_bind (wpAny_pure ?_)))
  refine wpAny_bind (wpAny_dictEntries hoa hda ?_)
  dsimp only
  refine wpAny_bind (wpAny_dictEntries hob hdb ?_)
  by_cases hsz : es.size = 0
  case neg =>
    rw [if_pos (by simpa using hsz)]
    have hbf : (es.size == 0) = false := by simpa using hsz
    rw [hbf] at h
    exact wpAny_bind (wpAny_rule (wpAny_pure h))
  case pos =>
    have h' : Q true s := by simpa [hsz] using h
    rw [if_neg (by simp [hsz])]
    obtain rfl : es = #[] := Array.eq_empty_of_size_eq_zero hsz
    refine wpAny_bind (wpAny_dictEpoch hoa hda ?_)
    refine wpAny_bind ?_
    rw [Std.Legacy.Range.forIn_eq_forIn_range']
    simp only [Std.Legacy.Range.size, Nat.sub_zero, Nat.add_sub_cancel, Nat.div_one]
    exact wpAny_pure (wpAny_pure h')
/-- d != {} -/
theorem ne_empty {a b : Addr} {oa ob : Obj} {es : Array DictEntry} {ep ep' : Nat} {Q : Value → Shared → Prop} (ha : (a == sysModules) = false) (hb : (b == sysModules) = false)
    (hoa : s.heap.get? a = some oa) (hxa : oa.ExactDict) (hda : oa.data = .dict es ep) (hob : s.heap.get? b = some ob) (hxb : ob.ExactDict) (hdb : ob.data = .dict #[] ep') (hu : A.units < cLine) (h : Q (.bool (!(es.size == 0))) s) :
    wpAny (model prog w) A (compareOp .NotEq (.ref a) (.ref b)) Q E s := by
  have ta : s.TypeIs (.ref a) "dict" := ⟨oa, hoa, hxa.1⟩
  have tb : s.TypeIs (.ref b) "dict" := ⟨ob, hob, hxb.1⟩
  refine wpAny_richCompare_same_room (op := .NotEq) ta tb PySem.F.slot_dict_ne (wpAny_call_entry PySem.F.slot_dict_ne ta PySem.F.entry_dict_ne ?_ (PySem.F.args_dict_ne_2 _ _)) hu
  show wpAny _ _ (Builtin.Dict.dictSlotArgs "__ne__" ⟨[.ref a, .ref b], []⟩ >>= _) _ _ s
  refine wpAny_bind ?_
  unfold Builtin.Dict.dictSlotArgs
  refine wpAny_bind (wpAny_notOrdered_dict ta ?_)
  show wpAny _ _ (pure (Value.ref a, Value.ref b)) _ _ s
  refine wpAny_pure ?_
  refine wpAny_bind (wpAny_isInstance (T := "dict") tb PySem.F.sub_dict_dict ?_)
  simp only [Bool.not_true, Bool.false_eq_true, if_false]
  refine wpAny_bind (wpAny_pure (wpAny_bind (wpAny_pure ?_)))
  refine wpAny_bind (same_empty ha hb hoa hda hob hdb ?_)
  refine wpAny_pure ⟨_, rfl, ?_, ?_⟩
  · exact fun x => nomatch x
  · simpa using h
end
section
variable {k : Nat} {X : Cx} {G : Glo} {W : WX} {a b c o : Expr} {fa fb fc fe fo : EF} {ta tb ft : TF} {pos p p2 pos2 apos : Pos} {es : List Expr} {fs : AF}
variable {pins : List (Addr × Obj)} {s : Shared} {σ : L2.St} {H : Hp} {ι : List Addr}
theorem dic_raw (hK : X.K = G.K) (I : Inv X pins σ H s) {ad : Addr} {t : Bool} {ks vs : List D} (h : DicAt G H ι ad t ks vs) : ∃ (ob : Obj) (es : Array DictEntry) (ep : Nat), (ad == sysModules) = false ∧ s.heap.get? ad = some ob ∧ ob.ExactDict ∧ ob.data = .dict es ep ∧ es.size = ks.length := by
  cases t with
  | false =>
    obtain ⟨kvs, e, r1, r2⟩ := h
    obtain ⟨_, lo, vs', rel, dd⟩ := dk_rd I.hok e
    obtain ⟨o, es, ep, g1, g2, g3, g4, g5, g6⟩ := dd
    refine ⟨o, es, ep, lo, g1, g2, g3, ?_⟩
    have l1 := r1.length
    have l2 := g5.length
    have l3 := Paired.length rel
    rw [List.length_map] at l1
    rw [Array.length_toList] at l2
    omega
  | true =>
    obtain ⟨xs, ws, e, hn, h1, h2, h3⟩ := h
    obtain ⟨q1, q2, dd⟩ := dn_of hK I e hn h1
    obtain ⟨o, es, ep, g1, g2, g3, g4, g5, g6⟩ := dd
    refine ⟨o, es, ep, q1, g1, g2, g3, ?_⟩
    have l1 := congrArg List.length hn
    have l2 := congrArg List.length g4
    simp at l1 l2
    omega
def nedD (x y : D) (μ : MH) : R D := match dicOf μ x with
  | some (_, ks, _) => .ok (.bl (!ks.isEmpty)) μ
  | none => .no
def nedD2 (x y : D) (μ : MH) : R D := match y with
  | .dic false [] [] => nedD x y μ
  | _ => .no
theorem od_ned : OpD k X G W (compareOp .NotEq) nedD2 := fun cc pins s σ H δ μ ι d e x y v u Q I rx ry rs dx dy q => by
  unfold nedD2 at q
  split at q
  · unfold nedD at q
    cases h2 : dicOf μ d with
    | none => simp only [h2] at q; exact q.elim
    | some z =>
      obtain ⟨t, ks, vs⟩ := z
      simp only [h2] at q
      obtain ⟨ad, rfl, da⟩ := dic_view rs dx h2
      obtain ⟨ob, es, ep, lo, g1, g2, g3, g4⟩ := dic_raw cc.hK I da
      obtain ⟨d2, ob2, es2, ep2, ys, rfl, lo2, k1, k2, k3, k4, k5⟩ := frz_raw I dy
      cases rx
      cases ry
      have hy : es2 = #[] := by
        have := vals_rel k4 k5
        simp at this
        exact Array.eq_empty_of_size_eq_zero this.symm
      subst hy
      have hu := cc.room.units
      refine ne_empty lo lo2 g1 g2 g3 k1 k2 k3 (by omega) ⟨.bl (!ks.isEmpty), H, I, ?_, q.now rs rfl⟩
      rw [g4]
      cases ks <;> rfl
  · exact q.elim
theorem de_dicNe {dpos : Pos} (ha : DE k X G W a fa) (hm : behindInMarks .NotEq (.Dict [] [] dpos) = false := by first | exact nomark _ | with_unfolding_all rfl) : DE k X G W (.Compare a [.NotEq] [.Dict [] [] dpos] pos) (eDicNe fa) := by
  have h := de_cmp (o := .NotEq) (pos := pos) (od_ned (k := k) (X := X) (G := G) (W := W)) ha (de_dicF (pos := dpos)) hm
  exact h
end
end SZ
end
section
/-! FA: the defs as functions on data (printed). -/
namespace SZ
open PySem PySem.Spec PyProof.Rows L2
@[simp] def C_BOX : D := (.str "box")
@[simp] def C_DIGITS : D := (.str "0123456789")
@[simp] def C_DRAWS : D := (.str "draws")
@[simp] def C_FIRST : D := (.tup [(.tup [(.int 0), (.bl false)]), (.tup [(.int 0), (.bl false)])])
@[simp] def C_FRESH : D := (.tup [(.int 0), (.bl false)])
@[simp] def C_HALF : D := (.str "half")
@[simp] def C_KEPT : D := (.str "kept")
@[simp] def C_MISS : D := (.str "miss")
@[simp] def C_MOST_BOXES : D := (.int 3)
@[simp] def C_MOST_CHANCES : D := (.int 5)
@[simp] def C_MOST_CHANGES : D := (.int 2)
@[simp] def C_MOST_DRAWS : D := (.int 12)
@[simp] def C_MOST_GIVEN : D := (.int 5)
@[simp] def C_MOST_GOAL : D := (.int 20)
@[simp] def C_MOST_SEASONS : D := (.int 3)
@[simp] def C_MOST_TICKETS : D := (.int 20)
@[simp] def C_MOST_WITHIN : D := (.int 20)
@[simp] def C_ONE : D := (.tup [(.int 1), (.int 1)])
@[simp] def C_OTHER : D := (.str "other")
@[simp] def C_SURE : D := (.int 100)
@[simp] def C_SURER : D := (.str "sure")
@[simp] def C_TICKETS : D := (.str "tickets")
@[simp] def C_WISHED : D := (.str "wished")
@[simp] def C_WORDS : D := (.tup [(.str "miss"), (.str "other"), (.str "wished")])
@[simp] def C_ZERO : D := (.tup [(.int 0), (.int 1)])
def ct : CT
  | 0 => [("told" : Str), ("left" : Str)]
  | 1 => [("book" : Str), ("pick" : Str), ("with_box" : Str), ("known" : Str)]
  | 2 => [("book" : Str), ("by" : Str), ("known" : Str)]
  | 3 => [("book" : Str), ("purses" : Str), ("is_thrifty" : Str), ("known" : Str)]
  | 4 => [("rules" : Str), ("rows" : Str)]
  | 5 => [("own" : Str), ("known" : Str)]
  | _ => []
theorem ct_small : ∀ c, (ct c).length < 1000
  | 0 => by decide
  | 1 => by decide
  | 2 => by decide
  | 3 => by decide
  | 4 => by decide
  | 5 => by decide
  | _ + 6 => by show 0 < 1000; decide
/-! _law_draws (k01 k02 k03 k04 k05 k06 k07 k08 k09 k10 k11 k12 k13 k14 k15 k16 k17 k18 k19 k20 k21 k22 k23) -/
def F__law_draws : FF := fnB 1 1 (sSeq (sRet (eLstM (aCons (eCall lisD (aCons (eVar 0) (aNil))) (aCons (eC (.int 0)) (aCons (eC (.int 0)) (aCons (eC (.int 7)) (aNil))))))) (sNil))
/-! _law_pick (k01 k02 k03 k04 k05 k06 k07 k08 k09 k10 k11 k12 k13 k14 k15 k16 k17 k18 k19 k20 k21 k22 k23) -/
def F__law_pick : FF := fnB 4 2 (sSeq (sIf (tVal (eB (eqD false) (eB ixD (eVar 0) (eC (.int 2))) (eC (.int 0)))) (sSeq (sIf (tVal (eB ltD (eB ixD (eVar 0) (eC (.int 1))) (eCall lenD (aCons (eB ixD (eVar 0) (eC (.int 0))) (aNil))))) (sSeq (sAsg (eB ixD (eB ixD (eVar 0) (eC (.int 0))) (eB ixD (eVar 0) (eC (.int 1)))) (gNm 2)) (sSeq (sPut (eB addD (eB ixD (eVar 0) (eC (.int 1))) (eC (.int 1))) (eVar 0) (eC (.int 1))) (sSeq (sIf (tVal (eB geD (eVar 2) (eB powD (eC (.int 10)) (eC (.int 18))))) (sSeq (sPut (eVar 2) (eVar 0) (eC (.int 2))) (sNil)) (sSeq (sPut (eB modD (eCall intD (aCons (eB addD (eB addD (eB mulD (eB ixD (eVar 0) (eC (.int 3))) (eC (.int 48271))) (eB mulD (eVar 2) (eC (.int 69621)))) (eC (.int 11))) (aNil))) (eC (.int 2147483647))) (eVar 0) (eC (.int 3))) (sNil))) (sNil)))) (sSeq (sPut (eB modD (eCall intD (aCons (eB addD (eB mulD (eB ixD (eVar 0) (eC (.int 3))) (eC (.int 48271))) (eC (.int 7))) (aNil))) (eC (.int 2147483647))) (eVar 0) (eC (.int 3))) (sNil))) (sNil)) (sNil)) (sSeq (sIf (tVal (eB gtD (eB ixD (eVar 0) (eC (.int 2))) (eC (.int 0)))) (sSeq (sAsg (eB modD (eCall intD (aCons (eB ixD (eVar 0) (eC (.int 2))) (aNil))) (eVar 1)) (gNm 3)) (sSeq (sPut (eB fdivD (eB ixD (eVar 0) (eC (.int 2))) (eVar 1)) (eVar 0) (eC (.int 2))) (sSeq (sRet (eVar 3)) (sNil)))) (sNil)) (sSeq (sRet (eB modD (eB modD (eCall intD (aCons (eB mulD (eB ixD (eVar 0) (eC (.int 3))) (eC (.int 16807))) (aNil))) (eC (.int 2147483629))) (eVar 1))) (sNil))))
/-! _law_box (k01 k02 k03 k04 k05 k06 k07 k08 k09 k10 k11 k12 k13 k14 k15 k16 k17 k18 k20 k22 k23) -/
def L__law_box_1 : SF := sFor (iRn1 (aCons (eCall F__law_pick (aCons (eVar 0) (aCons (eVar 1) (aNil)))) (aNil))) (gNm 3) (sSeq (sAsg (eB addD (eVar 2) (eTup (aCons (eB ixD (eLst (aCons (eC (.int 0)) (aCons (eC (.int 10)) (aCons (eC (.int 50)) (aCons (eCall F__law_pick (aCons (eVar 0) (aCons (eC (.int 100)) (aNil)))) (aNil)))))) (eCall F__law_pick (aCons (eVar 0) (aCons (eC (.int 4)) (aNil))))) (aNil)))) (gNm 2)) (sNil))
def F__law_box : FF := fnB 5 2 (sSeq (sAsg (eTup (aNil)) (gNm 2)) (sSeq (L__law_box_1) (sSeq (sAsg (eB ixD (eLst (aCons (eC (.int 50)) (aCons (eC (.int 100)) (aCons (eB addD (eC (.int 1)) (eCall F__law_pick (aCons (eVar 0) (aCons (eC (.int 100)) (aNil))))) (aNil))))) (eCall F__law_pick (aCons (eVar 0) (aCons (eC (.int 3)) (aNil))))) (gNm 4)) (sSeq (sRet (eTup (aCons (eCall F__law_pick (aCons (eVar 0) (aCons (eC (.int 2)) (aNil)))) (aCons (eB addD (eC (.int 1)) (eCall F__law_pick (aCons (eVar 0) (aCons (eC (.int 3)) (aNil))))) (aCons (eVar 4) (aCons (eB addD (eVar 2) (eTup (aCons (eC (.int 100)) (aNil)))) (aNil))))))) (sNil)))))
/-! _law_drawn (k01 k02 k03 k04 k05 k06 k07 k08 k09 k10 k11 k12 k13 k14 k15 k16 k17 k18 k20 k22 k23) -/
def L__law_drawn_1 : SF := sFor (iRn1 (aCons (eB addD (eC (.int 1)) (eCall F__law_pick (aCons (eVar 0) (aCons (eVar 1) (aNil))))) (aNil))) (gNm 4) (sSeq (sAsg (eB addD (eVar 3) (eTup (aCons (eCall F__law_box (aCons (eVar 0) (aCons (eVar 2) (aNil)))) (aNil)))) (gNm 3)) (sNil))
def F__law_drawn : FF := fnB 5 3 (sSeq (sAsg (eTup (aNil)) (gNm 3)) (sSeq (L__law_drawn_1) (sSeq (sRet (eDsp [("boxes" : Str), ("kept" : Str)] (aCons (eVar 3) (aCons (eB ixD (eLst (aCons (eTup (aNil)) (aCons (eTup (aCons (eC (.int 0)) (aNil))) (aCons (eTup (aCons (eC (.int 1)) (aNil))) (aCons (eTup (aCons (eC (.int 0)) (aCons (eC (.int 1)) (aNil)))) (aNil)))))) (eCall F__law_pick (aCons (eVar 0) (aCons (eC (.int 4)) (aNil))))) (aNil))))) (sNil))))
/-! is_from (k01 k02 k03 k04 k05 k06 k07 k08 k09 k10 k11 k12 k13 k14 k15 k16 k17 k18 k19 k20 k21 k22 k23) -/
def F_is_from : FF := fnB 3 3 (sSeq (sRet (eAnd (eIsi "int" (eVar 0)) (eAnd (eNot (eIsi "bool" (eVar 0))) (eCh leD leD (eVar 1) (eVar 0) (eVar 2))))) (sNil))
/-! are_chances (k01 k02 k03 k04 k05 k06 k07 k08 k09 k10 k11 k12 k13 k14 k15 k16 k17 k18 k19 k20 k21 k22 k23) -/
def K_are_chances_1 : EF := eLc [1] (iSq (eSl (eVar 0) (oNo) (oSo (eC (.int (-1)))))) (gNm 1) (tYesD) (eCall F_is_from (aCons (eVar 1) (aCons (eC (.int 0)) (aCons (eB subD (eC C_SURE) (eC (.int 1))) (aNil)))))
def F_are_chances : FF := fnB 2 1 (sSeq (sIf (tOrD (tNotD (tVal (eIsi "tuple" (eVar 0)))) (tNotD (tVal (eCh leD leD (eC (.int 1)) (eCall lenD (aCons (eVar 0) (aNil))) (eC C_MOST_CHANCES))))) (sSeq (sRet (eC (.bl false))) (sNil)) (sNil)) (sSeq (sRet (eAnd (eCall allD (aCons (K_are_chances_1) (aNil))) (eCall F_is_from (aCons (eB ixD (eVar 0) (eC (.int (-1)))) (aCons (eC C_SURE) (aCons (eC C_SURE) (aNil))))))) (sNil)))
/-! is_box (k01 k02 k03 k04 k05 k06 k07 k08 k09 k10 k11 k12 k13 k14 k15 k16 k17 k18 k19 k20 k21 k22 k23) -/
def F_is_box : FF := fnB 1 1 (sSeq (sIf (tOrD (tNotD (tVal (eIsi "tuple" (eVar 0)))) (tOrD (tVal (eB (eqD true) (eCall lenD (aCons (eVar 0) (aNil))) (eC (.int 4)))) (tNotD (tVal (eCall F_is_from (aCons (eB ixD (eVar 0) (eC (.int 0))) (aCons (eC (.int 0)) (aCons (eC (.int 1)) (aNil))))))))) (sSeq (sRet (eC (.bl false))) (sNil)) (sNil)) (sSeq (sRet (eAnd (eCall F_is_from (aCons (eB ixD (eVar 0) (eC (.int 1))) (aCons (eC (.int 1)) (aCons (eC (.int 3)) (aNil))))) (eAnd (eCall F_is_from (aCons (eB ixD (eVar 0) (eC (.int 2))) (aCons (eC (.int 1)) (aCons (eC C_SURE) (aNil))))) (eCall F_are_chances (aCons (eB ixD (eVar 0) (eC (.int 3))) (aNil)))))) (sNil)))
/-! are_kept (k01 k02 k03 k04 k05 k06 k07 k08 k09 k10 k11 k12 k13 k14 k15 k16 k17 k18 k19 k20 k21 k22 k23) -/
def K_are_kept_1 : EF := eLc [1] (iSq (eVar 0)) (gNm 1) (tYesD) (eCall F_is_from (aCons (eVar 1) (aCons (eC (.int 0)) (aCons (eC (.int 1)) (aNil)))))
def F_are_kept : FF := fnB 2 1 (sSeq (sIf (tOrD (tNotD (tVal (eIsi "tuple" (eVar 0)))) (tNotD (tVal (eCall allD (aCons (K_are_kept_1) (aNil)))))) (sSeq (sRet (eC (.bl false))) (sNil)) (sNil)) (sSeq (sRet (eB (eqD false) (eCall lisD (aCons (eVar 0) (aNil))) (eSoSet (eVar 0)))) (sNil)))
/-! Book.__init__ (k01 k02 k03 k04 k05 k06 k07 k08 k09 k10 k11 k12 k13 k14 k15 k16 k17 k18 k19 k20 k21 k22 k23) -/
def L_Book_init_1 : SF := sFor (iEn (aCons (eVar 1) (aNil))) (gTp 2 (gsCons (gNm 3) (gsCons (gNm 4) (gsNil)))) (sSeq (sIf (tNotD (tVal (eCall F_is_box (aCons (eVar 4) (aNil))))) (sSeq (sRz1 13 1 (aCons (eVar 3) (aNil))) (sNil)) (sNil)) (sNil))
def F_Book_init : FF := fnB 5 3 (sSeq (sIf (tOrD (tNotD (tVal (eIsi "tuple" (eVar 1)))) (tNotD (tVal (eCh leD leD (eC (.int 1)) (eCall lenD (aCons (eVar 1) (aNil))) (eC C_MOST_BOXES))))) (sSeq (sRz1 13 1 (aCons (eC .non) (aNil))) (sNil)) (sNil)) (sSeq (L_Book_init_1) (sSeq (sIf (tNotD (tVal (eCall F_are_kept (aCons (eVar 2) (aNil))))) (sSeq (sRz0 7) (sNil)) (sNil)) (sSeq (sFst ct "told" (eVar 1) (eVar 0)) (sSeq (sFst ct "left" (eVar 2) (eVar 0)) (sNil))))))
/-! Book.kept (k01 k16 k20) -/
def F_Book_kept : FF := fnB 1 1 (sSeq (sRet (eFld ct "left" (eVar 0))) (sNil))
/-! Book.boxes (k01 k16 k20) -/
def F_Book_boxes : FF := fnB 1 1 (sSeq (sRet (eFld ct "told" (eVar 0))) (sNil))
/-! Book.__eq__ (k01 k13 k16 k17 k20) -/
def F_Book_eq : FF := fnB 2 2 (sSeq (sRet (eAnd (eIsO 0 (eVar 1)) (eAnd (eB (eqD false) (eFld ct "told" (eVar 0)) (eFld ct "told" (eVar 1))) (eB (eqD false) (eFld ct "left" (eVar 0)) (eFld ct "left" (eVar 1)))))) (sNil))
/-! _law_fraction (k02 k03 k04 k05 k06 k07 k08 k09 k10 k11 k12 k14 k15 k18 k19 k22 k23) -/
def L__law_fraction_1 : SF := sWhile (fun δ _ => match δ with | [_, _, _, some (.int b)] => b.toNat + 1 | _ => 0) (tVal (eB (eqD true) (eVar 3) (eC (.int 0)))) (sSeq (sPar [2, 3] (aCons (eVar 3) (aCons (eB modD (eVar 2) (eVar 3)) (aNil)))) (sNil))
def F__law_fraction : FF := fnB 4 2 (sSeq (sPar [2, 3] (aCons (eVar 0) (aCons (eVar 1) (aNil)))) (sSeq (L__law_fraction_1) (sSeq (sRet (eTup (aCons (eB fdivD (eVar 0) (eVar 2)) (aCons (eB fdivD (eVar 1) (eVar 2)) (aNil))))) (sNil))))
/-! _law_moves (k02 k03 k04 k05 k06 k07 k08 k09 k10 k11 k12 k14 k15 k18 k22 k23) -/
def L__law_moves_1 : SF := sFor (iSq (eB addD (eVar 12) (eLst (aCons (eTup (aCons (eC (.str "wished")) (aCons (eB mulD (eVar 9) (eVar 10)) (aCons (eTup (aCons (eC (.int 0)) (aCons (eC (.bl false)) (aNil)))) (aNil))))) (aNil))))) (gTp 3 (gsCons (gNm 13) (gsCons (gNm 14) (gsCons (gNm 15) (gsNil))))) (sSeq (sIf (tVal (eB gtD (eVar 14) (eC (.int 0)))) (sSeq (sAsg (eIf (tVal (eB (eqD false) (eVar 3) (eC (.int 0)))) (eTup (aCons (eVar 15) (aCons (eB ixD (eVar 1) (eC (.int 1))) (aNil)))) (eTup (aCons (eB ixD (eVar 1) (eC (.int 0))) (aCons (eVar 15) (aNil))))) (gNm 16)) (sSeq (sExpr (eMt appD (eVar 11) (aCons (eTup (aCons (eVar 13) (aCons (eCall F__law_fraction (aCons (eVar 14) (aCons (eC (.int 10000)) (aNil)))) (aCons (eVar 16) (aNil))))) (aNil)))) (sNil))) (sNil)) (sNil))
def F__law_moves : FF := fnB 17 3 (sSeq (sAsg (eB ixD (eB ixD (eVar 0) (eC (.str "boxes"))) (eVar 2)) (gTp 4 (gsCons (gNm 3) (gsCons (gNm 4) (gsCons (gNm 5) (gsCons (gNm 6) (gsNil))))))) (sSeq (sAsg (eB ixD (eVar 1) (eVar 3)) (gTp 2 (gsCons (gNm 7) (gsCons (gNm 8) (gsNil))))) (sSeq (sAsg (eIf (tVal (eB ltD (eVar 7) (eCall lenD (aCons (eVar 6) (aNil))))) (eB ixD (eVar 6) (eVar 7)) (eC (.int 100))) (gNm 9)) (sSeq (sAsg (eIf (tVal (eVar 8)) (eC (.int 100)) (eVar 5)) (gNm 10)) (sSeq (sAsg (eLstM (aNil)) (gNm 11)) (sSeq (sAsg (eLst (aCons (eTup (aCons (eC (.str "miss")) (aCons (eB mulD (eC (.int 100)) (eB subD (eC (.int 100)) (eVar 9))) (aCons (eTup (aCons (eB addD (eVar 7) (eC (.int 1))) (aCons (eVar 8) (aNil)))) (aNil))))) (aCons (eTup (aCons (eC (.str "other")) (aCons (eB mulD (eVar 9) (eB subD (eC (.int 100)) (eVar 10))) (aCons (eTup (aCons (eC (.int 0)) (aCons (eC (.bl true)) (aNil)))) (aNil))))) (aNil)))) (gNm 12)) (sSeq (L__law_moves_1) (sSeq (sRet (eFz (eVar 11))) (sNil)))))))))
/-! _law_all (k02 k03 k04 k05 k06 k07 k09 k10 k11 k12 k14 k15 k18 k22 k23) -/
def L__law_all_1 : SF := sFor (iSq (eCall F__law_moves (aCons (eVar 0) (aCons (eB ixD (eVar 3) (eVar 5)) (aCons (eVar 6) (aNil)))))) (gTp 3 (gsCons (gNm 7) (gsCons (gNm 8) (gsCons (gNm 9) (gsNil))))) (sSeq (sIf (tAndD (tVal (eB (inD true) (eVar 9) (eVar 4))) (tNotD (tAndD (tVal (eVar 2)) (tVal (eB (eqD false) (eVar 7) (eC (.str "wished"))))))) (sSeq (sPut (eC (.bl true)) (eVar 4) (eVar 9)) (sSeq (sExpr (eMt appD (eVar 3) (aCons (eVar 9) (aNil)))) (sNil))) (sNil)) (sNil))
def L__law_all_2 : SF := sFor (iRn1 (aCons (eCall lenD (aCons (eB ixD (eVar 0) (eC (.str "boxes"))) (aNil))) (aNil))) (gNm 6) (sSeq (L__law_all_1) (sNil))
def L__law_all_3 : SF := sWhile (fun _ _ => 1000) (tVal (eB ltD (eVar 5) (eCall lenD (aCons (eVar 3) (aNil))))) (sSeq (L__law_all_2) (sSeq (sAsg (eB addD (eVar 5) (eC (.int 1))) (gNm 5)) (sNil)))
def F__law_all : FF := fnB 10 3 (sSeq (sPar [3, 4, 5] (aCons (eLstM (aCons (eVar 1) (aNil))) (aCons (eDsp1M (eVar 1) (eC (.bl true))) (aCons (eC (.int 0)) (aNil))))) (sSeq (L__law_all_3) (sSeq (sRet (eSrt (aCons (eVar 3) (aNil)))) (sNil))))
/-! _law_first (k02 k03 k04 k05 k06 k07 k08 k09 k10 k11 k12 k14 k15 k18 k19 k20 k21 k22 k23) -/
def F__law_first : FF := fnB 0 0 (sSeq (sRet (eTup (aCons (eTup (aCons (eC (.int 0)) (aCons (eC (.bl false)) (aNil)))) (aCons (eTup (aCons (eC (.int 0)) (aCons (eC (.bl false)) (aNil)))) (aNil))))) (sNil))
/-! _law_made (k02 k03 k04 k05 k06 k07 k08 k09 k10 k11 k12 k13 k14 k15 k16 k18 k20 k22 k23) -/
def F__law_made : FF := fnB 1 1 (sSeq (sRet (eMkF ct 0 F_Book_init [] (aCons (eB ixD (eVar 0) (eC (.str "boxes"))) (aCons (eB ixD (eVar 0) (eC (.str "kept"))) (aNil))))) (sNil))
/-! with_kind (k02 k03 k04 k05 k06 k07 k08 k09 k10 k11 k12 k14 k15 k18 k19 k20 k22 k23) -/
def F_with_kind : FF := fnB 3 3 (sSeq (sRet (eIf (tVal (eB (eqD false) (eVar 1) (eC (.int 0)))) (eTup (aCons (eVar 2) (aCons (eB ixD (eVar 0) (eC (.int 1))) (aNil)))) (eTup (aCons (eB ixD (eVar 0) (eC (.int 0))) (aCons (eVar 2) (aNil)))))) (sNil))
/-! divisor (k02 k03 k04 k05 k06 k07 k08 k09 k10 k11 k12 k14 k15 k18 k19 k20 k22 k23) -/
def L_divisor_1 : SF := sWhile (fun δ _ => match δ with | [_, some (.int b)] => b.toNat + 1 | _ => 0) (tVal (eB (eqD true) (eVar 1) (eC (.int 0)))) (sSeq (sPar [0, 1] (aCons (eVar 1) (aCons (eB modD (eVar 0) (eVar 1)) (aNil)))) (sNil))
def F_divisor : FF := fnB 2 2 (sSeq (L_divisor_1) (sSeq (sRet (eVar 0)) (sNil)))
/-! fraction (k02 k03 k04 k05 k06 k07 k08 k09 k10 k11 k12 k14 k15 k18 k19 k20 k22 k23) -/
def F_fraction : FF := fnB 3 2 (sSeq (sAsg (eCall F_divisor (aCons (eVar 0) (aCons (eVar 1) (aNil)))) (gNm 2)) (sSeq (sRet (eTup (aCons (eB fdivD (eVar 0) (eVar 2)) (aCons (eB fdivD (eVar 1) (eVar 2)) (aNil))))) (sNil)))
/-! moves_of (k02 k03 k04 k05 k06 k07 k08 k09 k10 k11 k12 k14 k15 k18 k19 k20 k22 k23) -/
def F_moves_of : FF := fnB 13 3 (sSeq (sAsg (eB ixD (eFld ct "told" (eVar 0)) (eVar 2)) (gTp 4 (gsCons (gNm 3) (gsCons (gNm 4) (gsCons (gNm 5) (gsCons (gNm 6) (gsNil))))))) (sSeq (sAsg (eB ixD (eVar 1) (eVar 3)) (gTp 2 (gsCons (gNm 7) (gsCons (gNm 8) (gsNil))))) (sSeq (sAsg (eB ixD (eVar 6) (eCall minD (aCons (eVar 7) (aCons (eB subD (eCall lenD (aCons (eVar 6) (aNil))) (eC (.int 1))) (aNil))))) (gNm 9)) (sSeq (sAsg (eLstM (aNil)) (gNm 10)) (sSeq (sIf (tVal (eB ltD (eVar 9) (eC C_SURE))) (sSeq (sExpr (eMt appD (eVar 10) (aCons (eTup (aCons (eC C_MISS) (aCons (eCall F_fraction (aCons (eB subD (eC C_SURE) (eVar 9)) (aCons (eC C_SURE) (aNil)))) (aCons (eCall F_with_kind (aCons (eVar 1) (aCons (eVar 3) (aCons (eTup (aCons (eB addD (eVar 7) (eC (.int 1))) (aCons (eVar 8) (aNil)))) (aNil))))) (aNil))))) (aNil)))) (sNil)) (sNil)) (sSeq (sAsg (eIf (tVal (eVar 8)) (eC C_SURE) (eVar 5)) (gNm 11)) (sSeq (sIf (tAndD (tVal (eB gtD (eVar 9) (eC (.int 0)))) (tVal (eB ltD (eVar 11) (eC C_SURE)))) (sSeq (sAsg (eCall F_fraction (aCons (eB mulD (eVar 9) (eB subD (eC C_SURE) (eVar 11))) (aCons (eB mulD (eC C_SURE) (eC C_SURE)) (aNil)))) (gNm 12)) (sSeq (sExpr (eMt appD (eVar 10) (aCons (eTup (aCons (eC C_OTHER) (aCons (eVar 12) (aCons (eCall F_with_kind (aCons (eVar 1) (aCons (eVar 3) (aCons (eTup (aCons (eC (.int 0)) (aCons (eC (.bl true)) (aNil)))) (aNil))))) (aNil))))) (aNil)))) (sNil))) (sNil)) (sSeq (sIf (tVal (eB gtD (eVar 9) (eC (.int 0)))) (sSeq (sExpr (eMt appD (eVar 10) (aCons (eTup (aCons (eC C_WISHED) (aCons (eCall F_fraction (aCons (eB mulD (eVar 9) (eVar 11)) (aCons (eB mulD (eC C_SURE) (eC C_SURE)) (aNil)))) (aCons (eCall F_with_kind (aCons (eVar 1) (aCons (eVar 3) (aCons (eC C_FRESH) (aNil))))) (aNil))))) (aNil)))) (sNil)) (sNil)) (sSeq (sRet (eFz (eVar 10))) (sNil))))))))))
/-! standings_of (k02 k03 k04 k05 k06 k07 k08 k09 k10 k14 k18 k19 k20 k22 k23) -/
def L_standings_of_1 : SF := sFor (iSq (eCall F_moves_of (aCons (eVar 0) (aCons (eVar 3) (aCons (eVar 4) (aNil)))))) (gTp 3 (gsCons (gNm 5) (gsCons (gNm 6) (gsCons (gNm 7) (gsNil))))) (sSeq (sIf (tVal (eB (inD true) (eVar 7) (eVar 1))) (sSeq (sPut (eC (.bl true)) (eVar 1) (eVar 7)) (sSeq (sExpr (eMt appD (eVar 2) (aCons (eVar 7) (aNil)))) (sNil))) (sNil)) (sNil))
def L_standings_of_2 : SF := sFor (iRn1 (aCons (eCall lenD (aCons (eFld ct "told" (eVar 0)) (aNil))) (aNil))) (gNm 4) (sSeq (L_standings_of_1) (sNil))
def L_standings_of_3 : SF := sWhile (fun _ _ => 1000) (tVal (eB (eqD true) (eVar 2) (eLst (aNil)))) (sSeq (sAsg (eMt0 popD (eVar 2)) (gNm 3)) (sSeq (L_standings_of_2) (sNil)))
def F_standings_of : FF := fnB 8 1 (sSeq (sPar [1, 2] (aCons (eDsp1M (eC C_FIRST) (eC (.bl true))) (aCons (eLstM (aCons (eC C_FIRST) (aNil))) (aNil)))) (sSeq (L_standings_of_3) (sSeq (sRet (eFz (eVar 1))) (sNil))))
/-! standings (k02 k19 k20) -/
def F_standings : FF := fnB 1 1 (sSeq (sRet (eSrtK (aCons (eCall F_standings_of (aCons (eVar 0) (aNil))) (aNil)))) (sNil))
/-! is_pair (k02 k03 k04 k05 k06 k07 k08 k09 k10 k14 k18 k19 k20 k22 k23) -/
def F_is_pair : FF := fnB 1 1 (sSeq (sIf (tOrD (tNotD (tVal (eIsi "tuple" (eVar 0)))) (tVal (eB (eqD true) (eCall lenD (aCons (eVar 0) (aNil))) (eC (.int 2))))) (sSeq (sRet (eC (.bl false))) (sNil)) (sNil)) (sSeq (sRet (eAnd (eCall F_is_from (aCons (eB ixD (eVar 0) (eC (.int 0))) (aCons (eC (.int 0)) (aCons (eC C_MOST_CHANCES) (aNil))))) (eIsi "bool" (eB ixD (eVar 0) (eC (.int 1)))))) (sNil)))
/-! is_standing (k02 k03 k04 k05 k06 k07 k08 k09 k10 k14 k18 k19 k20 k22 k23) -/
def F_is_standing : FF := fnB 2 2 (sSeq (sIf (tOrD (tNotD (tVal (eIsi "tuple" (eVar 1)))) (tOrD (tVal (eB (eqD true) (eCall lenD (aCons (eVar 1) (aNil))) (eC (.int 2)))) (tOrD (tNotD (tVal (eCall F_is_pair (aCons (eB ixD (eVar 1) (eC (.int 0))) (aNil))))) (tNotD (tVal (eCall F_is_pair (aCons (eB ixD (eVar 1) (eC (.int 1))) (aNil)))))))) (sSeq (sRet (eC (.bl false))) (sNil)) (sNil)) (sSeq (sRet (eB (inD false) (eVar 1) (eCall F_standings_of (aCons (eVar 0) (aNil))))) (sNil)))
/-! check_standing (k02 k03 k04 k05 k06 k07 k08 k09 k10 k14 k18 k19 k20 k22 k23) -/
def F_check_standing : FF := fnB 2 2 (sSeq (sIf (tNotD (tVal (eCall F_is_standing (aCons (eVar 0) (aCons (eVar 1) (aNil)))))) (sSeq (sRz0 8) (sNil)) (sNil)) (sNil))
/-! check_number (k02 k06 k08 k12 k15 k18 k19 k20 k22 k23) -/
def F_check_number : FF := fnB 3 3 (sSeq (sIf (tNotD (tVal (eCall F_is_from (aCons (eVar 0) (aCons (eVar 1) (aCons (eVar 2) (aNil))))))) (sSeq (sRz0 9) (sNil)) (sNil)) (sNil))
/-! outcomes (k02 k20) -/
def F_outcomes : FF := fnB 3 3 (sSeq (sExpr (eCall F_check_standing (aCons (eVar 0) (aCons (eVar 1) (aNil))))) (sSeq (sExpr (eCall F_check_number (aCons (eVar 2) (aCons (eC (.int 0)) (aCons (eB subD (eCall lenD (aCons (eFld ct "told" (eVar 0)) (aNil))) (eC (.int 1))) (aNil)))))) (sSeq (sRet (eCall F_moves_of (aCons (eVar 0) (aCons (eVar 1) (aCons (eVar 2) (aNil)))))) (sNil))))
/-! _law_stand (k03 k04 k06 k07 k09 k10 k14 k18 k22 k23) -/
def F__law_stand : FF := fnB 3 2 (sSeq (sAsg (eCall F__law_all (aCons (eVar 1) (aCons (eCall0 F__law_first) (aCons (eC (.bl false)) (aNil))))) (gNm 2)) (sSeq (sRet (eB ixD (eLst (aCons (eCall0 F__law_first) (aCons (eB ixD (eVar 2) (eCall F__law_pick (aCons (eVar 0) (aCons (eCall lenD (aCons (eVar 2) (aNil))) (aNil))))) (aNil)))) (eCall F__law_pick (aCons (eVar 0) (aCons (eC (.int 2)) (aNil)))))) (sNil)))
/-! _law_open (k03 k04 k05 k09 k10 k12) -/
def K__law_open_1 : EF := eLc [3, 4, 5] (iSq (eCall F__law_moves (aCons (eVar 0) (aCons (eVar 1) (aCons (eVar 2) (aNil)))))) (gTp 3 (gsCons (gNm 3) (gsCons (gNm 4) (gsCons (gNm 5) (gsNil))))) (tVal (eB (eqD true) (eVar 3) (eC (.str "wished")))) (eTup (aCons (eVar 4) (aCons (eVar 5) (aNil))))
def F__law_open : FF := fnB 6 3 (sSeq (sRet (K__law_open_1)) (sNil))
/-! _law_sure (k03 k12) -/
def K__law_sure_1 : EF := eLc [10, 11] (iSq (eCall F__law_open (aCons (eVar 0) (aCons (eVar 7) (aCons (eVar 8) (aNil)))))) (gTp 2 (gsCons (gNm 10) (gsCons (gNm 11) (gsNil)))) (tYesD) (eB (inD false) (eVar 11) (eVar 3))
def L__law_sure_1 : SF := sFor (iRn1 (aCons (eCall lenD (aCons (eB ixD (eVar 0) (eC (.str "boxes"))) (aNil))) (aNil))) (gNm 8) (sSeq (sIf (tVal (eCall allD (aCons (K__law_sure_1) (aNil)))) (sSeq (sPut (eC (.bl true)) (eVar 6) (eVar 7)) (sNil)) (sNil)) (sNil))
def L__law_sure_2 : SF := sFor (iSq (eVar 2)) (gNm 7) (sSeq (L__law_sure_1) (sNil))
def L__law_sure_3 : SF := sWhile (fun _ _ => 1000) (tVal (eB (inD true) (eVar 1) (eVar 3))) (sSeq (sAsg (eB addD (eVar 5) (eC (.int 1))) (gNm 5)) (sSeq (sAsg (eDicM true) (gNm 6)) (sSeq (L__law_sure_2) (sSeq (sAsg (eTup (aCons (eVar 3) (aCons (eFz (eVar 6)) (aNil)))) (gTp 2 (gsCons (gNm 4) (gsCons (gNm 3) (gsNil))))) (sNil)))))
def K__law_sure_2 : EF := eLc [10, 11] (iSq (eCall F__law_open (aCons (eVar 0) (aCons (eVar 1) (aCons (eVar 8) (aNil)))))) (gTp 2 (gsCons (gNm 10) (gsCons (gNm 11) (gsNil)))) (tYesD) (eB (inD false) (eVar 11) (eVar 4))
def L__law_sure_4 : SF := sFor (iRn1 (aCons (eCall lenD (aCons (eB ixD (eVar 0) (eC (.str "boxes"))) (aNil))) (aNil))) (gNm 8) (sSeq (sIf (tVal (eCall allD (aCons (K__law_sure_2) (aNil)))) (sSeq (sExpr (eMt appD (eVar 9) (aCons (eVar 8) (aNil)))) (sNil)) (sNil)) (sNil))
def F__law_sure : FF := fnB 12 2 (sSeq (sAsg (eTup (aCons (eCall F__law_all (aCons (eVar 0) (aCons (eVar 1) (aCons (eC (.bl true)) (aNil))))) (aCons (eFz (eDicM true)) (aCons (eFz (eDicM true)) (aCons (eC (.int 0)) (aNil)))))) (gTp 4 (gsCons (gNm 2) (gsCons (gNm 3) (gsCons (gNm 4) (gsCons (gNm 5) (gsNil))))))) (sSeq (L__law_sure_3) (sSeq (sAsg (eLstM (aNil)) (gNm 9)) (sSeq (L__law_sure_4) (sSeq (sRet (eLst (aCons (eVar 5) (aCons (eVar 9) (aNil))))) (sNil))))))
/-! indexes (k03 k04 k05 k06 k07 k08 k09 k10 k11 k12 k15 k18 k19 k20 k22 k23) -/
def F_indexes : FF := fnB 1 1 (sSeq (sRet (eLsR (aCons (eCall lenD (aCons (eFld ct "told" (eVar 0)) (aNil))) (aNil)))) (sNil))
/-! open_moves (k03 k04 k05 k08 k09 k10 k12 k18 k19 k20) -/
def K_open_moves_1 : EF := eLc [3, 4, 5] (iSq (eCall F_moves_of (aCons (eVar 0) (aCons (eVar 1) (aCons (eVar 2) (aNil)))))) (gTp 3 (gsCons (gNm 3) (gsCons (gNm 4) (gsCons (gNm 5) (gsNil))))) (tVal (eB (eqD true) (eVar 3) (eC C_WISHED))) (eTup (aCons (eVar 4) (aCons (eVar 5) (aNil))))
def F_open_moves : FF := fnB 6 3 (sSeq (sRet (K_open_moves_1)) (sNil))
/-! most_of (k03 k05 k18 k19 k20) -/
def F_most_of : FF := fnB 1 1 (sSeq (sRet (eCall maxD (aCons (eVar 0) (aNil)))) (sNil))
/-! fewest_of (k03 k05 k12 k18 k19 k20) -/
def F_fewest_of : FF := fnB 1 1 (sSeq (sRet (eCall minD (aCons (eVar 0) (aNil)))) (sNil))
/-! longest_walk (k03 k05 k12 k18 k19 k20) -/
def K_longest_walk_1 : EF := eLc [2, 3] (iSq (eVar 1)) (gTp 2 (gsCons (gNm 2) (gsCons (gNm 3) (gsNil)))) (tYesD) (eVar 3)
def F_longest_walk : FF := fnB 4 2 (sSeq (sRet (eB addD (eC (.int 1)) (eCall maxD (aCons (eB addD (eLst (aCons (eC (.int 0)) (aNil))) (K_longest_walk_1)) (aNil))))) (sNil))
/-! Worths.__init__ (k03 k04 k05 k08 k10 k12 k18 k19 k20) -/
def F_Worths_init : FF := fnB 4 4 (sSeq (sFst ct "book" (eVar 1) (eVar 0)) (sSeq (sFst ct "pick" (eVar 2) (eVar 0)) (sSeq (sFst ct "with_box" (eVar 3) (eVar 0)) (sSeq (sFst ct "known" (eDicM true) (eVar 0)) (sNil)))))
/-! lengths (k03 k05 k12 k18 k19 k20) -/
def F_lengths : FF := fnB 2 2 (sSeq (sRet (eMkF ct 1 F_Worths_init [] (aCons (eVar 0) (aCons (eVar 1) (aCons (eC (.fn 4)) (aNil)))))) (sNil))
/-! _law_cost (k04 k05 k06 k09 k10 k11 k15) -/
def F__law_cost : FF := fnB 3 3 (sSeq (sRet (eIf (tVal (eB (eqD false) (eVar 2) (eC (.str "draws")))) (eC (.int 1)) (eB ixD (eB ixD (eB ixD (eVar 0) (eC (.str "boxes"))) (eVar 1)) (eC (.int 1))))) (sNil))
/-! _law_plus (k04 k05 k06 k07 k08 k09 k10 k11 k15 k22 k23) -/
def F__law_plus : FF := fnB 2 2 (sSeq (sRet (eCall F__law_fraction (aCons (eB addD (eB mulD (eB ixD (eVar 0) (eC (.int 0))) (eB ixD (eVar 1) (eC (.int 1)))) (eB mulD (eB ixD (eVar 1) (eC (.int 0))) (eB ixD (eVar 0) (eC (.int 1))))) (aCons (eB mulD (eB ixD (eVar 0) (eC (.int 1))) (eB ixD (eVar 1) (eC (.int 1)))) (aNil))))) (sNil))
/-! _law_times (k04 k05 k06 k07 k08 k09 k10 k11 k14 k15 k22 k23) -/
def F__law_times : FF := fnB 2 2 (sSeq (sRet (eCall F__law_fraction (aCons (eB mulD (eB ixD (eVar 0) (eC (.int 0))) (eB ixD (eVar 1) (eC (.int 0)))) (aCons (eB mulD (eB ixD (eVar 0) (eC (.int 1))) (eB ixD (eVar 1) (eC (.int 1)))) (aNil))))) (sNil))
/-! _law_by_box (k04 k09 k10) -/
def L__law_by_box_1 : SF := sFor (iSq (eCall F__law_open (aCons (eVar 0) (aCons (eVar 1) (aCons (eVar 2) (aNil)))))) (gTp 2 (gsCons (gNm 6) (gsCons (gNm 7) (gsNil)))) (sSeq (sAsg (eCall F__law_plus (aCons (eVar 5) (aCons (eCall F__law_times (aCons (eVar 6) (aCons (eB ixD (eVar 4) (eVar 7)) (aNil)))) (aNil)))) (gNm 5)) (sNil))
def F__law_by_box : FF := fnB 8 5 (sSeq (sAsg (eTup (aCons (eCall F__law_cost (aCons (eVar 0) (aCons (eVar 2) (aCons (eVar 3) (aNil))))) (aCons (eC (.int 1)) (aNil)))) (gNm 5)) (sSeq (L__law_by_box_1) (sSeq (sRet (eVar 5)) (sNil))))
/-! _law_less (k04 k05 k06 k07 k09 k10 k11 k15 k18 k22 k23) -/
def F__law_less : FF := fnB 2 2 (sSeq (sRet (eB ltD (eB mulD (eB ixD (eVar 0) (eC (.int 0))) (eB ixD (eVar 1) (eC (.int 1)))) (eB mulD (eB ixD (eVar 1) (eC (.int 0))) (eB ixD (eVar 0) (eC (.int 1)))))) (sNil))
/-! _law_least (k04 k05 k09 k10) -/
def L__law_least_1 : SF := sFor (iSq (eVar 0)) (gNm 2) (sSeq (sIf (tVal (eCall F__law_less (aCons (eVar 2) (aCons (eVar 1) (aNil))))) (sSeq (sAsg (eVar 2) (gNm 1)) (sNil)) (sNil)) (sNil))
def F__law_least : FF := fnB 3 1 (sSeq (sAsg (eB ixD (eVar 0) (eC (.int 0))) (gNm 1)) (sSeq (L__law_least_1) (sSeq (sRet (eVar 1)) (sNil))))
/-! _law_most (k04 k05 k06 k07 k09 k10 k11 k15 k22) -/
def L__law_most_1 : SF := sFor (iSq (eVar 0)) (gNm 2) (sSeq (sIf (tVal (eCall F__law_less (aCons (eVar 1) (aCons (eVar 2) (aNil))))) (sSeq (sAsg (eVar 2) (gNm 1)) (sNil)) (sNil)) (sNil))
def F__law_most : FF := fnB 3 1 (sSeq (sAsg (eB ixD (eVar 0) (eC (.int 0))) (gNm 1)) (sSeq (L__law_most_1) (sSeq (sRet (eVar 1)) (sNil))))
/-! _law_values (k04 k09 k10) -/
def K__law_values_1 : EF := eLc [12, 11] (iSq (eCall F__law_open (aCons (eVar 0) (aCons (eVar 7) (aCons (eVar 9) (aNil)))))) (gTp 2 (gsCons (gNm 12) (gsCons (gNm 11) (gsNil)))) (tYesD) (eVar 11)
def L__law_values_1 : SF := sFor (iRn1 (aCons (eCall lenD (aCons (eB ixD (eVar 0) (eC (.str "boxes"))) (aNil))) (aNil))) (gNm 9) (sSeq (sAsg (eB addD (eVar 8) (K__law_values_1)) (gNm 8)) (sNil))
def K__law_values_2 : EF := eLc [11] (iSq (eVar 8)) (gNm 11) (tYesD) (eB (inD false) (eVar 11) (eVar 4))
def K__law_values_3 : EF := eLc [9] (iRn1 (aCons (eCall lenD (aCons (eB ixD (eVar 0) (eC (.str "boxes"))) (aNil))) (aNil))) (gNm 9) (tYesD) (eCall F__law_by_box (aCons (eVar 0) (aCons (eVar 7) (aCons (eVar 9) (aCons (eVar 2) (aCons (eVar 4) (aNil)))))))
def L__law_values_2 : SF := sFor (iSq (eVar 5)) (gNm 7) (sSeq (sAsg (eLst (aNil)) (gNm 8)) (sSeq (L__law_values_1) (sSeq (sIf (tVal (eCall allD (aCons (K__law_values_2) (aNil)))) (sSeq (sAsg (K__law_values_3) (gNm 10)) (sSeq (sPut (eIf (tVal (eVar 3)) (eCall F__law_least (aCons (eVar 10) (aNil))) (eCall F__law_most (aCons (eVar 10) (aNil)))) (eVar 4) (eVar 7)) (sNil))) (sSeq (sExpr (eMt appD (eVar 6) (aCons (eVar 7) (aNil)))) (sNil))) (sNil))))
def L__law_values_3 : SF := sWhile (fun _ _ => 1000) (tVal (eB (eqD true) (eVar 5) (eLst (aNil)))) (sSeq (sAsg (eLstM (aNil)) (gNm 6)) (sSeq (L__law_values_2) (sSeq (sAsg (eVar 6) (gNm 5)) (sNil))))
def F__law_values : FF := fnB 13 4 (sSeq (sAsg (eTup (aCons (eDicM true) (aCons (eCall F__law_all (aCons (eVar 0) (aCons (eVar 1) (aCons (eC (.bl true)) (aNil))))) (aNil)))) (gTp 2 (gsCons (gNm 4) (gsCons (gNm 5) (gsNil))))) (sSeq (L__law_values_3) (sSeq (sRet (eFz (eVar 4))) (sNil))))
/-! check_by (k04 k05 k06 k08 k10 k18 k19 k20 k23) -/
def F_check_by : FF := fnB 1 1 (sSeq (sIf (tOrD (tNotD (tVal (eIsi "str" (eVar 0)))) (tVal (eB (inD true) (eVar 0) (eTup (aCons (eC C_DRAWS) (aCons (eC C_TICKETS) (aNil))))))) (sSeq (sRz0 10) (sNil)) (sNil)) (sNil))
/-! is_less (k04 k05 k06 k07 k08 k09 k10 k11 k15 k18 k19 k20 k22 k23) -/
def F_is_less : FF := fnB 2 2 (sSeq (sRet (eB ltD (eB mulD (eB ixD (eVar 0) (eC (.int 0))) (eB ixD (eVar 1) (eC (.int 1)))) (eB mulD (eB ixD (eVar 1) (eC (.int 0))) (eB ixD (eVar 0) (eC (.int 1)))))) (sNil))
/-! least (k04 k05 k08 k10 k18 k19 k20) -/
def L_least_1 : SF := sFor (iSq (eSl (eVar 0) (oSo (eC (.int 1))) (oNo))) (gNm 2) (sSeq (sAsg (eIf (tVal (eCall F_is_less (aCons (eVar 2) (aCons (eVar 1) (aNil))))) (eVar 2) (eVar 1)) (gNm 1)) (sNil))
def F_least : FF := fnB 3 1 (sSeq (sAsg (eB ixD (eVar 0) (eC (.int 0))) (gNm 1)) (sSeq (L_least_1) (sSeq (sRet (eVar 1)) (sNil))))
/-! greatest (k04 k05 k06 k07 k08 k10 k11 k15 k18 k19 k20 k22 k23) -/
def L_greatest_1 : SF := sFor (iSq (eSl (eVar 0) (oSo (eC (.int 1))) (oNo))) (gNm 2) (sSeq (sAsg (eIf (tVal (eCall F_is_less (aCons (eVar 1) (aCons (eVar 2) (aNil))))) (eVar 2) (eVar 1)) (gNm 1)) (sNil))
def F_greatest : FF := fnB 3 1 (sSeq (sAsg (eB ixD (eVar 0) (eC (.int 0))) (gNm 1)) (sSeq (L_greatest_1) (sSeq (sRet (eVar 1)) (sNil))))
/-! plus (k04 k05 k06 k07 k08 k09 k10 k11 k15 k18 k19 k20 k22 k23) -/
def F_plus : FF := fnB 2 2 (sSeq (sRet (eCall F_fraction (aCons (eB addD (eB mulD (eB ixD (eVar 0) (eC (.int 0))) (eB ixD (eVar 1) (eC (.int 1)))) (eB mulD (eB ixD (eVar 1) (eC (.int 0))) (eB ixD (eVar 0) (eC (.int 1))))) (aCons (eB mulD (eB ixD (eVar 0) (eC (.int 1))) (eB ixD (eVar 1) (eC (.int 1)))) (aNil))))) (sNil))
/-! times (k04 k05 k06 k07 k08 k09 k10 k11 k14 k15 k18 k19 k20 k22 k23) -/
def F_times : FF := fnB 2 2 (sSeq (sRet (eCall F_fraction (aCons (eB mulD (eB ixD (eVar 0) (eC (.int 0))) (eB ixD (eVar 1) (eC (.int 0)))) (aCons (eB mulD (eB ixD (eVar 0) (eC (.int 1))) (eB ixD (eVar 1) (eC (.int 1)))) (aNil))))) (sNil))
/-! mean_by (k04 k05 k08 k09 k10 k18 k19 k20) -/
def L_mean_by_1 : SF := sFor (iSq (eVar 1)) (gTp 2 (gsCons (gNm 3) (gsCons (gNm 4) (gsNil)))) (sSeq (sAsg (eCall F_plus (aCons (eVar 2) (aCons (eCall F_times (aCons (eVar 3) (aCons (eVar 4) (aNil)))) (aNil)))) (gNm 2)) (sNil))
def F_mean_by : FF := fnB 5 2 (sSeq (sAsg (eTup (aCons (eVar 0) (aCons (eC (.int 1)) (aNil)))) (gNm 2)) (sSeq (L_mean_by_1) (sSeq (sRet (eVar 2)) (sNil))))
/-! cost_of (k04 k05 k06 k08 k10 k11 k15 k18 k19 k20 k23) -/
def F_cost_of : FF := fnB 3 3 (sSeq (sRet (eIf (tVal (eB (eqD false) (eVar 2) (eC C_DRAWS))) (eC (.int 1)) (eB ixD (eB ixD (eFld ct "told" (eVar 0)) (eVar 1)) (eC (.int 1))))) (sNil))
def FTab : Nat → FF
  | 0 => F_most_of
  | 1 => F_fewest_of
  | 2 => F_least
  | 3 => F_greatest
  | 4 => F_longest_walk
  | _ => fun _ _ => .no
/-- the lambda of mean_worths: (book, by) (index, some) -/
def CTab : Nat → List D → FF
  | 0, vs => cloB 4 2 vs (sRet (eCall F_mean_by (aCons (eCall F_cost_of (aCons (eVar 2) (aCons (eVar 0) (aCons (eVar 3) (aNil))))) (aCons (eVar 1) (aNil)))))
  | _, _ => fun _ _ => .no
/-! Worths.of_box, Worths.of (k03 k04 k05 k08 k10 k12 k18 k19 k20) -/
mutual
def F_Worths_of_box : Nat → FF
  | 0 => fun _ _ => .no
  | k + 1 => fnB 6 3 (sSeq (sAsg ((eLc [4, 5] (iSq (eCall F_open_moves (aCons (eFld ct "book" (eVar 0)) (aCons (eVar 1) (aCons (eVar 2) (aNil)))))) (gTp 2 (gsCons (gNm 4) (gsCons (gNm 5) (gsNil)))) (tYesD) (eTup (aCons (eVar 4) (aCons (eMeth 1 (F_Worths_of k) (eVar 0) (aCons (eVar 5) (aNil))) (aNil)))))) (gNm 3)) (sSeq (sRet (eFc2 ct "with_box" FTab CTab (eVar 0) (aCons (eVar 2) (aCons (eVar 3) (aNil))))) (sNil)))
def F_Worths_of : Nat → FF
  | 0 => fun _ _ => .no
  | k + 1 => fnB 3 2 (sSeq (sIf (tVal (eB (inD true) (eVar 1) (eFld ct "known" (eVar 0)))) (sSeq (sPut (eFc2 ct "pick" FTab CTab (eVar 0) (aCons ((eLc [2] (iSq (eCall F_indexes (aCons (eFld ct "book" (eVar 0)) (aNil)))) (gNm 2) (tYesD) (eMeth 1 (F_Worths_of_box k) (eVar 0) (aCons (eVar 1) (aCons (eVar 2) (aNil)))))) (aNil))) (eFld ct "known" (eVar 0)) (eVar 1)) (sNil)) (sNil)) (sSeq (sRet (eB ixD (eFld ct "known" (eVar 0)) (eVar 1))) (sNil)))
end
def K_Worths_of_box_1 (k : Nat) : EF := eLc [4, 5] (iSq (eCall F_open_moves (aCons (eFld ct "book" (eVar 0)) (aCons (eVar 1) (aCons (eVar 2) (aNil)))))) (gTp 2 (gsCons (gNm 4) (gsCons (gNm 5) (gsNil)))) (tYesD) (eTup (aCons (eVar 4) (aCons (eMeth 1 (F_Worths_of k) (eVar 0) (aCons (eVar 5) (aNil))) (aNil))))
def K_Worths_of_1 (k : Nat) : EF := eLc [2] (iSq (eCall F_indexes (aCons (eFld ct "book" (eVar 0)) (aNil)))) (gNm 2) (tYesD) (eMeth 1 (F_Worths_of_box k) (eVar 0) (aCons (eVar 1) (aCons (eVar 2) (aNil))))
/-! longest (k03 k05 k18 k19 k20) -/
def F_longest : FF := fnB 2 2 (sSeq (sExpr (eCall F_check_standing (aCons (eVar 0) (aCons (eVar 1) (aNil))))) (sSeq (sRet (eMeth 1 (F_Worths_of 60) (eCall F_lengths (aCons (eVar 0) (aCons (eC (.fn 0)) (aNil)))) (aCons (eVar 1) (aNil)))) (sNil)))
/-! surest_of (k03 k05 k12 k18 k19 k20) -/
def F_surest_of : FF := fnB 2 2 (sSeq (sRet (eMeth 1 (F_Worths_of 60) (eCall F_lengths (aCons (eVar 0) (aCons (eC (.fn 1)) (aNil)))) (aCons (eVar 1) (aNil)))) (sNil))
/-! surest (k03 k05 k18 k19 k20) -/
def F_surest : FF := fnB 2 2 (sSeq (sExpr (eCall F_check_standing (aCons (eVar 0) (aCons (eVar 1) (aNil))))) (sSeq (sRet (eCall F_surest_of (aCons (eVar 0) (aCons (eVar 1) (aNil))))) (sNil)))
/-! sure_boxes (k03 k19 k20) -/
def K_sure_boxes_1 : EF := eLc [4] (iSq (eCall F_indexes (aCons (eVar 0) (aNil)))) (gNm 4) (tVal (eB (eqD false) (eMeth 1 (F_Worths_of_box 60) (eVar 2) (aCons (eVar 1) (aCons (eVar 4) (aNil)))) (eVar 3))) (eVar 4)
def F_sure_boxes : FF := fnB 5 2 (sSeq (sExpr (eCall F_check_standing (aCons (eVar 0) (aCons (eVar 1) (aNil))))) (sSeq (sAsg (eCall F_lengths (aCons (eVar 0) (aCons (eC (.fn 1)) (aNil)))) (gNm 2)) (sSeq (sAsg (eMeth 1 (F_Worths_of 60) (eVar 2) (aCons (eVar 1) (aNil))) (gNm 3)) (sSeq (sRet (K_sure_boxes_1)) (sNil)))))
/-! mean_worths (k04 k05 k08 k10 k18 k19 k20) -/
def F_mean_worths : FF := fnB 3 3 (sSeq (sRet (eMkF ct 1 F_Worths_init [] (aCons (eVar 0) (aCons (eVar 2) (aCons (eClo 0 [0, 1]) (aNil)))))) (sNil))
/-! means (k04 k05 k08 k10 k18 k19 k20) -/
def F_means : FF := fnB 3 3 (sSeq (sExpr (eCall F_check_standing (aCons (eVar 0) (aCons (eVar 1) (aNil))))) (sSeq (sExpr (eCall F_check_by (aCons (eVar 2) (aNil)))) (sSeq (sRet (eTup (aCons (eMeth 1 (F_Worths_of 60) (eCall F_mean_worths (aCons (eVar 0) (aCons (eVar 2) (aCons (eC (.fn 2)) (aNil))))) (aCons (eVar 1) (aNil))) (aCons (eMeth 1 (F_Worths_of 60) (eCall F_mean_worths (aCons (eVar 0) (aCons (eVar 2) (aCons (eC (.fn 3)) (aNil))))) (aCons (eVar 1) (aNil))) (aNil))))) (sNil))))
/-! best_boxes (k04 k05 k20) -/
def K_best_boxes_1 : EF := eLc [5] (iSq (eCall F_indexes (aCons (eVar 0) (aNil)))) (gNm 5) (tVal (eB (eqD false) (eMeth 1 (F_Worths_of_box 60) (eVar 3) (aCons (eVar 1) (aCons (eVar 5) (aNil)))) (eVar 4))) (eVar 5)
def F_best_boxes : FF := fnB 6 3 (sSeq (sExpr (eCall F_check_standing (aCons (eVar 0) (aCons (eVar 1) (aNil))))) (sSeq (sExpr (eCall F_check_by (aCons (eVar 2) (aNil)))) (sSeq (sAsg (eCall F_mean_worths (aCons (eVar 0) (aCons (eVar 2) (aCons (eC (.fn 2)) (aNil))))) (gNm 3)) (sSeq (sAsg (eMeth 1 (F_Worths_of 60) (eVar 3) (aCons (eVar 1) (aNil))) (gNm 4)) (sSeq (sRet (K_best_boxes_1)) (sNil))))))
/-! _law_within (k06 k11 k15) -/
def L__law_within_1 : SF := sFor (iSq (eCall F__law_moves (aCons (eVar 0) (aCons (eVar 8) (aCons (eVar 10) (aNil)))))) (gTp 3 (gsCons (gNm 13) (gsCons (gNm 14) (gsCons (gNm 15) (gsNil))))) (sSeq (sAsg (eIf (tVal (eB (eqD false) (eVar 13) (eC (.str "wished")))) (eTup (aCons (eC (.int 1)) (aCons (eC (.int 1)) (aNil)))) (eB ixD (eB ixD (eVar 5) (eVar 11)) (eVar 15))) (gNm 16)) (sSeq (sAsg (eCall F__law_plus (aCons (eVar 12) (aCons (eCall F__law_times (aCons (eVar 14) (aCons (eVar 16) (aNil)))) (aNil)))) (gNm 12)) (sNil)))
def L__law_within_2 : SF := sFor (iRn1 (aCons (eCall lenD (aCons (eB ixD (eVar 0) (eC (.str "boxes"))) (aNil))) (aNil))) (gNm 10) (sSeq (sAsg (eB subD (eVar 6) (eCall F__law_cost (aCons (eVar 0) (aCons (eVar 10) (aCons (eVar 2) (aNil)))))) (gNm 11)) (sSeq (sIf (tVal (eB geD (eVar 11) (eC (.int 0)))) (sSeq (sAsg (eTup (aCons (eC (.int 0)) (aCons (eC (.int 1)) (aNil)))) (gNm 12)) (sSeq (L__law_within_1) (sSeq (sAsg (eCall F__law_most (aCons (eLst (aCons (eVar 9) (aCons (eVar 12) (aNil)))) (aNil))) (gNm 9)) (sNil)))) (sNil)) (sNil)))
def L__law_within_3 : SF := sFor (iSq (eVar 4)) (gNm 8) (sSeq (sAsg (eTup (aCons (eC (.int 0)) (aCons (eC (.int 1)) (aNil)))) (gNm 9)) (sSeq (L__law_within_2) (sSeq (sPut (eVar 9) (eVar 7) (eVar 8)) (sNil))))
def L__law_within_4 : SF := sFor (iRn1 (aCons (eB addD (eVar 3) (eC (.int 1))) (aNil))) (gNm 6) (sSeq (sAsg (eDicM true) (gNm 7)) (sSeq (L__law_within_3) (sSeq (sExpr (eMt appD (eVar 5) (aCons (eFz (eVar 7)) (aNil)))) (sNil))))
def F__law_within : FF := fnB 17 4 (sSeq (sAsg (eCall F__law_all (aCons (eVar 0) (aCons (eVar 1) (aCons (eC (.bl true)) (aNil))))) (gNm 4)) (sSeq (sAsg (eLstM (aNil)) (gNm 5)) (sSeq (L__law_within_4) (sSeq (sRet (eFz (eVar 5))) (sNil)))))
/-! Within.of_box, Within.of (k06 k11 k15 k18 k19 k20 k23) -/
mutual
def F_Within_of_box : Nat → FF
  | 0 => fun _ _ => .no
  | k + 1 => fnB 9 4 (sSeq (sAsg (eB subD (eVar 2) (eCall F_cost_of (aCons (eFld ct "book" (eVar 0)) (aCons (eVar 3) (aCons (eFld ct "by" (eVar 0)) (aNil)))))) (gNm 4)) (sSeq (sIf (tVal (eB ltD (eVar 4) (eC (.int 0)))) (sSeq (sRet (eC .non)) (sNil)) (sNil)) (sSeq (sAsg (eC C_ZERO) (gNm 5)) (sSeq ((sFor (iSq (eCall F_moves_of (aCons (eFld ct "book" (eVar 0)) (aCons (eVar 1) (aCons (eVar 3) (aNil)))))) (gTp 3 (gsCons (gNm 6) (gsCons (gNm 7) (gsCons (gNm 8) (gsNil))))) (sSeq (sAsg (eCall F_plus (aCons (eVar 5) (aCons (eCall F_times (aCons (eVar 7) (aCons (eIf (tVal (eB (eqD false) (eVar 6) (eC C_WISHED))) (eC C_ONE) (eMeth 2 (F_Within_of k) (eVar 0) (aCons (eVar 8) (aCons (eVar 4) (aNil))))) (aNil)))) (aNil)))) (gNm 5)) (sNil)))) (sSeq (sRet (eVar 5)) (sNil))))))
def F_Within_of : Nat → FF
  | 0 => fun _ _ => .no
  | k + 1 => fnB 6 3 (sSeq (sIf (tVal (eB (inD true) (eTup (aCons (eVar 1) (aCons (eVar 2) (aNil)))) (eFld ct "known" (eVar 0)))) (sSeq (sAsg ((eLc [4] (iSq (eCall F_indexes (aCons (eFld ct "book" (eVar 0)) (aNil)))) (gNm 4) (tYesD) (eMeth 2 (F_Within_of_box k) (eVar 0) (aCons (eVar 1) (aCons (eVar 2) (aCons (eVar 4) (aNil))))))) (gNm 3)) (sSeq (sPut (eCall F_greatest (aCons (eLst (aCons (eC C_ZERO) (aStar ((eLc [5] (iSq (eVar 3)) (gNm 5) (tVal (eB (isN true) (eVar 5) (eC .non))) (eVar 5))) (aNil)))) (aNil))) (eFld ct "known" (eVar 0)) (eTup (aCons (eVar 1) (aCons (eVar 2) (aNil))))) (sNil))) (sNil)) (sSeq (sRet (eB ixD (eFld ct "known" (eVar 0)) (eTup (aCons (eVar 1) (aCons (eVar 2) (aNil)))))) (sNil)))
end
def L_Within_of_box_1 (k : Nat) : SF := sFor (iSq (eCall F_moves_of (aCons (eFld ct "book" (eVar 0)) (aCons (eVar 1) (aCons (eVar 3) (aNil)))))) (gTp 3 (gsCons (gNm 6) (gsCons (gNm 7) (gsCons (gNm 8) (gsNil))))) (sSeq (sAsg (eCall F_plus (aCons (eVar 5) (aCons (eCall F_times (aCons (eVar 7) (aCons (eIf (tVal (eB (eqD false) (eVar 6) (eC C_WISHED))) (eC C_ONE) (eMeth 2 (F_Within_of k) (eVar 0) (aCons (eVar 8) (aCons (eVar 4) (aNil))))) (aNil)))) (aNil)))) (gNm 5)) (sNil))
def K_Within_of_1 (k : Nat) : EF := eLc [4] (iSq (eCall F_indexes (aCons (eFld ct "book" (eVar 0)) (aNil)))) (gNm 4) (tYesD) (eMeth 2 (F_Within_of_box k) (eVar 0) (aCons (eVar 1) (aCons (eVar 2) (aCons (eVar 4) (aNil)))))
def K_Within_of_2 (k : Nat) : EF := eLc [5] (iSq (eVar 3)) (gNm 5) (tVal (eB (isN true) (eVar 5) (eC .non))) (eVar 5)
/-! Within.__init__ (k06 k11 k15 k18 k19 k20 k23) -/
def F_Within_init : FF := fnB 3 3 (sSeq (sFst ct "book" (eVar 1) (eVar 0)) (sSeq (sFst ct "by" (eVar 2) (eVar 0)) (sSeq (sFst ct "known" (eDicM true) (eVar 0)) (sNil))))
/-! chance (k06 k18 k19 k20 k23) -/
def F_chance : FF := fnB 4 4 (sSeq (sExpr (eCall F_check_standing (aCons (eVar 0) (aCons (eVar 1) (aNil))))) (sSeq (sExpr (eCall F_check_by (aCons (eVar 2) (aNil)))) (sSeq (sExpr (eCall F_check_number (aCons (eVar 3) (aCons (eC (.int 0)) (aCons (eC C_MOST_WITHIN) (aNil)))))) (sSeq (sRet (eMeth 2 (F_Within_of 60) (eMkF ct 2 F_Within_init [] (aCons (eVar 0) (aCons (eVar 2) (aNil)))) (aCons (eVar 1) (aCons (eVar 3) (aNil))))) (sNil)))))
/-! Seasons.__init__ (k07 k18 k19 k20) -/
def F_Seasons_init : FF := fnB 4 4 (sSeq (sFst ct "book" (eVar 1) (eVar 0)) (sSeq (sFst ct "purses" (eVar 2) (eVar 0)) (sSeq (sFst ct "is_thrifty" (eVar 3) (eVar 0)) (sSeq (sFst ct "known" (eDicM true) (eVar 0)) (sNil)))))
/-! next_season (k07 k18 k19 k20) -/
def K_next_season_1 : EF := eLc [2, 3] (iEn (aCons (eVar 1) (aNil))) (gTp 2 (gsCons (gNm 2) (gsCons (gNm 3) (gsNil)))) (tYesD) (eIf (tVal (eB (inD false) (eVar 2) (eFld ct "left" (eVar 0)))) (eVar 3) (eC C_FRESH))
def F_next_season : FF := fnB 4 2 (sSeq (sRet (eCall tupD (aCons (K_next_season_1) (aNil)))) (sNil))
/-! Seasons.of_box, Seasons.waited, Seasons.of (k07 k18 k19 k20) -/
mutual
def F_Seasons_of_box : Nat → FF
  | 0 => fun _ _ => .no
  | k + 1 => fnB 10 5 (sSeq (sPar [5, 6] (aCons (eC C_ZERO) (aCons (eB subD (eVar 3) (eB ixD (eB ixD (eFld ct "told" (eFld ct "book" (eVar 0))) (eVar 4)) (eC (.int 1)))) (aNil)))) (sSeq ((sFor (iSq (eCall F_moves_of (aCons (eFld ct "book" (eVar 0)) (aCons (eVar 2) (aCons (eVar 4) (aNil)))))) (gTp 3 (gsCons (gNm 7) (gsCons (gNm 8) (gsCons (gNm 9) (gsNil))))) (sSeq (sAsg (eCall F_plus (aCons (eVar 5) (aCons (eCall F_times (aCons (eVar 8) (aCons (eIf (tVal (eB (eqD false) (eVar 7) (eC C_WISHED))) (eC C_ONE) (eMeth 3 (F_Seasons_of k) (eVar 0) (aCons (eVar 1) (aCons (eVar 9) (aCons (eVar 6) (aNil)))))) (aNil)))) (aNil)))) (gNm 5)) (sNil)))) (sSeq (sRet (eVar 5)) (sNil))))
def F_Seasons_waited : Nat → FF
  | 0 => fun _ _ => .no
  | k + 1 => fnB 4 4 (sSeq (sIf (tVal (eB (eqD false) (eB addD (eVar 1) (eC (.int 1))) (eCall lenD (aCons (eFld ct "purses" (eVar 0)) (aNil))))) (sSeq (sRet (eC C_ZERO)) (sNil)) (sNil)) (sSeq (sRet (eMeth 3 (F_Seasons_of k) (eVar 0) (aCons (eB addD (eVar 1) (eC (.int 1))) (aCons (eCall F_next_season (aCons (eFld ct "book" (eVar 0)) (aCons (eVar 2) (aNil)))) (aCons (eB addD (eVar 3) (eB ixD (eFld ct "purses" (eVar 0)) (eB addD (eVar 1) (eC (.int 1))))) (aNil)))))) (sNil)))
def F_Seasons_of : Nat → FF
  | 0 => fun _ _ => .no
  | k + 1 => fnB 8 4 (sSeq (sAsg (eTup (aCons (eVar 1) (aCons (eVar 2) (aCons (eVar 3) (aNil))))) (gNm 4)) (sSeq (sIf (tVal (eB (inD true) (eVar 4) (eFld ct "known" (eVar 0)))) (sSeq (sAsg ((eLc [7] (iSq (eCall F_indexes (aCons (eFld ct "book" (eVar 0)) (aNil)))) (gNm 7) (tVal (eB leD (eB ixD (eB ixD (eFld ct "told" (eFld ct "book" (eVar 0))) (eVar 7)) (eC (.int 1))) (eVar 3))) (eVar 7))) (gNm 5)) (sSeq (sAsg ((eLcM [7] (iSq (eVar 5)) (gNm 7) (tYesD) (eMeth 3 (F_Seasons_of_box k) (eVar 0) (aCons (eVar 1) (aCons (eVar 2) (aCons (eVar 3) (aCons (eVar 7) (aNil)))))))) (gNm 6)) (sSeq (sIf (tOrD (tVal (eFld ct "is_thrifty" (eVar 0))) (tVal (eB (eqD false) (eVar 6) (eLst (aNil))))) (sSeq (sExpr (eMt appD (eVar 6) (aCons (eMeth 3 (F_Seasons_waited k) (eVar 0) (aCons (eVar 1) (aCons (eVar 2) (aCons (eVar 3) (aNil))))) (aNil)))) (sNil)) (sNil)) (sSeq (sPut (eCall F_greatest (aCons (eVar 6) (aNil))) (eFld ct "known" (eVar 0)) (eVar 4)) (sNil))))) (sNil)) (sSeq (sRet (eB ixD (eFld ct "known" (eVar 0)) (eVar 4))) (sNil))))
end
def L_Seasons_of_box_1 (k : Nat) : SF := sFor (iSq (eCall F_moves_of (aCons (eFld ct "book" (eVar 0)) (aCons (eVar 2) (aCons (eVar 4) (aNil)))))) (gTp 3 (gsCons (gNm 7) (gsCons (gNm 8) (gsCons (gNm 9) (gsNil))))) (sSeq (sAsg (eCall F_plus (aCons (eVar 5) (aCons (eCall F_times (aCons (eVar 8) (aCons (eIf (tVal (eB (eqD false) (eVar 7) (eC C_WISHED))) (eC C_ONE) (eMeth 3 (F_Seasons_of k) (eVar 0) (aCons (eVar 1) (aCons (eVar 9) (aCons (eVar 6) (aNil)))))) (aNil)))) (aNil)))) (gNm 5)) (sNil))
def K_Seasons_of_1 (k : Nat) : EF := eLc [7] (iSq (eCall F_indexes (aCons (eFld ct "book" (eVar 0)) (aNil)))) (gNm 7) (tVal (eB leD (eB ixD (eB ixD (eFld ct "told" (eFld ct "book" (eVar 0))) (eVar 7)) (eC (.int 1))) (eVar 3))) (eVar 7)
def K_Seasons_of_2 (k : Nat) : EF := eLcM [7] (iSq (eVar 5)) (gNm 7) (tYesD) (eMeth 3 (F_Seasons_of_box k) (eVar 0) (aCons (eVar 1) (aCons (eVar 2) (aCons (eVar 3) (aCons (eVar 7) (aNil))))))
/-! seasons (k07 k18 k19 k20) -/
def K_seasons_1 : EF := eLc [5] (iSq (eVar 2)) (gNm 5) (tYesD) (eCall F_is_from (aCons (eVar 5) (aCons (eC (.int 0)) (aCons (eC C_MOST_GIVEN) (aNil)))))
def F_seasons : FF := fnB 6 3 (sSeq (sExpr (eCall F_check_standing (aCons (eVar 0) (aCons (eVar 1) (aNil))))) (sSeq (sIf (tOrD (tNotD (tVal (eIsi "tuple" (eVar 2)))) (tNotD (tVal (eCh leD leD (eC (.int 1)) (eCall lenD (aCons (eVar 2) (aNil))) (eC C_MOST_SEASONS))))) (sSeq (sRz0 9) (sNil)) (sNil)) (sSeq (sIf (tNotD (tVal (eCall allD (aCons (K_seasons_1) (aNil))))) (sSeq (sRz0 9) (sNil)) (sNil)) (sSeq (sPar [3, 4] (aCons (eMkF ct 3 F_Seasons_init [] (aCons (eVar 0) (aCons (eVar 2) (aCons (eC (.bl true)) (aNil))))) (aCons (eMkF ct 3 F_Seasons_init [] (aCons (eVar 0) (aCons (eVar 2) (aCons (eC (.bl false)) (aNil))))) (aNil)))) (sSeq (sRet (eTup (aCons (eMeth 3 (F_Seasons_of 90) (eVar 3) (aCons (eC (.int 0)) (aCons (eVar 1) (aCons (eB ixD (eVar 2) (eC (.int 0))) (aNil))))) (aCons (eMeth 3 (F_Seasons_of 90) (eVar 4) (aCons (eC (.int 0)) (aCons (eVar 1) (aCons (eB ixD (eVar 2) (eC (.int 0))) (aNil))))) (aNil))))) (sNil))))))
/-! share (k08 k18 k19 k20) -/
def L_share_1 : SF := sFor (iSq (eVar 5)) (gNm 8) (sSeq (sAsg (eCall F_plus (aCons (eVar 6) (aCons (eVar 7) (aNil)))) (gNm 6)) (sSeq (sAsg (eCall F_times (aCons (eVar 7) (aCons (eCall F_fraction (aCons (eB subD (eC C_SURE) (eVar 8)) (aCons (eC C_SURE) (aNil)))) (aNil)))) (gNm 7)) (sNil)))
def F_share : FF := fnB 9 2 (sSeq (sExpr (eCall F_check_number (aCons (eVar 1) (aCons (eC (.int 0)) (aCons (eB subD (eCall lenD (aCons (eFld ct "told" (eVar 0)) (aNil))) (eC (.int 1))) (aNil)))))) (sSeq (sAsg (eB ixD (eFld ct "told" (eVar 0)) (eVar 1)) (gTp 4 (gsCons (gNm 2) (gsCons (gNm 3) (gsCons (gNm 4) (gsCons (gNm 5) (gsNil))))))) (sSeq (sPar [6, 7] (aCons (eC C_ZERO) (aCons (eC C_ONE) (aNil)))) (sSeq (L_share_1) (sSeq (sAsg (eTup (aCons (eB ixD (eVar 6) (eC (.int 1))) (aCons (eB ixD (eVar 6) (eC (.int 0))) (aNil)))) (gNm 8)) (sSeq (sRet (eTup (aCons (eVar 8) (aCons (eCall F_times (aCons (eVar 8) (aCons (eCall F_fraction (aCons (eC C_SURE) (aCons (eB subD (eB mulD (eC (.int 2)) (eC C_SURE)) (eVar 4)) (aNil)))) (aNil)))) (aNil))))) (sNil)))))))
/-! _law_paper (k09 k10) -/
def K__law_paper_1 : EF := eLc [7] (iRn1 (aCons (eCall lenD (aCons (eB ixD (eVar 0) (eC (.str "boxes"))) (aNil))) (aNil))) (gNm 7) (tYesD) (eCall F__law_by_box (aCons (eVar 0) (aCons (eVar 5) (aCons (eVar 7) (aCons (eC (.str "draws")) (aCons (eVar 3) (aNil)))))))
def K__law_paper_2 : EF := eLc [7] (iRn1 (aCons (eCall lenD (aCons (eVar 6) (aNil))) (aNil))) (gNm 7) (tVal (eB (eqD false) (eB ixD (eVar 6) (eVar 7)) (eB ixD (eVar 3) (eVar 5)))) (eVar 7)
def L__law_paper_1 : SF := sFor (iSq (eCall F__law_all (aCons (eVar 0) (aCons (eVar 1) (aCons (eC (.bl true)) (aNil)))))) (gNm 5) (sSeq (sAsg (K__law_paper_1) (gNm 6)) (sSeq (sExpr (eMt appD (eVar 4) (aCons (eTup (aCons (eVar 5) (aCons (eCall minD (aCons (K__law_paper_2) (aNil))) (aCons (eB ixD (eVar 3) (eVar 5)) (aNil))))) (aNil)))) (sNil)))
def F__law_paper : FF := fnB 8 3 (sSeq (sAsg (eTup (aCons (eCall F__law_values (aCons (eVar 0) (aCons (eVar 1) (aCons (eC (.str "draws")) (aCons (eVar 2) (aNil)))))) (aCons (eLstM (aNil)) (aNil)))) (gTp 2 (gsCons (gNm 3) (gsCons (gNm 4) (gsNil))))) (sSeq (L__law_paper_1) (sSeq (sRet (eFz (eVar 4))) (sNil))))
/-! is_fraction (k09 k10) -/
def K_is_fraction_1 : EF := eLc [1] (iSq (eVar 0)) (gNm 1) (tYesD) (eAnd (eIsi "int" (eVar 1)) (eAnd (eNot (eIsi "bool" (eVar 1))) (eB gtD (eVar 1) (eC (.int 0)))))
def F_is_fraction : FF := fnB 2 1 (sSeq (sIf (tOrD (tNotD (tVal (eIsi "tuple" (eVar 0)))) (tVal (eB (eqD true) (eCall lenD (aCons (eVar 0) (aNil))) (eC (.int 2))))) (sSeq (sRet (eC (.bl false))) (sNil)) (sNil)) (sSeq (sIf (tNotD (tVal (eCall allD (aCons (K_is_fraction_1) (aNil))))) (sSeq (sRet (eC (.bl false))) (sNil)) (sNil)) (sSeq (sRet (eB (eqD false) (eCall F_divisor (aCons (eB ixD (eVar 0) (eC (.int 0))) (aCons (eB ixD (eVar 0) (eC (.int 1))) (aNil)))) (eC (.int 1)))) (sNil))))
/-! is_row (k09 k10) -/
def F_is_row : FF := fnB 2 2 (sSeq (sIf (tOrD (tNotD (tVal (eIsi "tuple" (eVar 1)))) (tOrD (tVal (eB (eqD true) (eCall lenD (aCons (eVar 1) (aNil))) (eC (.int 3)))) (tNotD (tVal (eCall F_is_standing (aCons (eVar 0) (aCons (eB ixD (eVar 1) (eC (.int 0))) (aNil)))))))) (sSeq (sRet (eC (.bl false))) (sNil)) (sNil)) (sSeq (sRet (eAnd (eCall F_is_from (aCons (eB ixD (eVar 1) (eC (.int 1))) (aCons (eC (.int 0)) (aCons (eB subD (eCall lenD (aCons (eFld ct "told" (eVar 0)) (aNil))) (eC (.int 1))) (aNil))))) (eCall F_is_fraction (aCons (eB ixD (eVar 1) (eC (.int 2))) (aNil))))) (sNil)))
/-! does_hold (k09 k10) -/
def K_does_hold_1 : EF := eLc [9, 10] (iSq (eVar 7)) (gTp 2 (gsCons (gNm 9) (gsCons (gNm 10) (gsNil)))) (tYesD) (eB (inD false) (eVar 10) (eVar 2))
def K_does_hold_2 : EF := eLc [9, 10] (iSq (eVar 7)) (gTp 2 (gsCons (gNm 9) (gsCons (gNm 10) (gsNil)))) (tYesD) (eTup (aCons (eVar 9) (aCons (eB ixD (eVar 2) (eVar 10)) (aNil))))
def L_does_hold_1 : SF := sFor (iSq (eCall F_indexes (aCons (eVar 0) (aNil)))) (gNm 6) (sSeq (sAsg (eCall F_open_moves (aCons (eVar 0) (aCons (eVar 3) (aCons (eVar 6) (aNil))))) (gNm 7)) (sSeq (sIf (tNotD (tVal (eCall allD (aCons (K_does_hold_1) (aNil))))) (sSeq (sRet (eC (.bl false))) (sNil)) (sNil)) (sSeq (sAsg (eCall F_mean_by (aCons (eC (.int 1)) (aCons (K_does_hold_2) (aNil)))) (gNm 8)) (sSeq (sIf (tOrD (tVal (eCall F_is_less (aCons (eVar 8) (aCons (eVar 5) (aNil))))) (tAndD (tVal (eB (eqD false) (eVar 6) (eVar 4))) (tVal (eB (eqD true) (eVar 8) (eVar 5))))) (sSeq (sRet (eC (.bl false))) (sNil)) (sNil)) (sNil)))))
def F_does_hold : FF := fnB 11 3 (sSeq (sAsg (eVar 1) (gTp 3 (gsCons (gNm 3) (gsCons (gNm 4) (gsCons (gNm 5) (gsNil)))))) (sSeq (L_does_hold_1) (sSeq (sRet (eC (.bl true))) (sNil))))
/-! check_paper (k09 k10) -/
def L_check_paper_1 : SF := sFor (iSq (eVar 2)) (gNm 4) (sSeq (sIf (tVal (eCall F_is_row (aCons (eVar 0) (aCons (eVar 4) (aNil))))) (sSeq (sExpr (eSetd (eVar 3) (eB ixD (eVar 4) (eC (.int 0))) (eB ixD (eVar 4) (eC (.int 2))))) (sNil)) (sNil)) (sNil))
def L_check_paper_2 : SF := sFor (iEn (aCons (eVar 2) (aNil))) (gTp 2 (gsCons (gNm 6) (gsCons (gNm 4) (gsNil)))) (sSeq (sIf (tOrD (tNotD (tVal (eCall F_is_row (aCons (eVar 0) (aCons (eVar 4) (aNil)))))) (tOrD (tVal (eB (inD false) (eB ixD (eVar 4) (eC (.int 0))) (eVar 5))) (tNotD (tVal (eCall F_does_hold (aCons (eVar 0) (aCons (eVar 4) (aCons (eVar 3) (aNil))))))))) (sSeq (sRet (eVar 6)) (sNil)) (sNil)) (sSeq (sPut (eC (.bl true)) (eVar 5) (eB ixD (eVar 4) (eC (.int 0)))) (sNil)))
def F_check_paper : FF := fnB 7 3 (sSeq (sExpr (eCall F_check_standing (aCons (eVar 0) (aCons (eVar 1) (aNil))))) (sSeq (sIf (tNotD (tVal (eIsi "list" (eVar 2)))) (sSeq (sRet (eC (.int 0))) (sNil)) (sNil)) (sSeq (sAsg (eDicM true) (gNm 3)) (sSeq (L_check_paper_1) (sSeq (sAsg (eDicM true) (gNm 5)) (sSeq (L_check_paper_2) (sSeq (sRet (eIf (tVal (eB (inD false) (eVar 1) (eVar 5))) (eC .non) (eCall lenD (aCons (eVar 2) (aNil))))) (sNil))))))))
/-! reached (k10 k20) -/
def L_reached_1 : SF := sFor (iSq (eCall F_open_moves (aCons (eVar 0) (aCons (eVar 4) (aCons (eVar 5) (aNil)))))) (gTp 2 (gsCons (gNm 6) (gsCons (gNm 7) (gsNil)))) (sSeq (sIf (tVal (eB (inD true) (eVar 7) (eVar 2))) (sSeq (sPut (eC (.bl true)) (eVar 2) (eVar 7)) (sSeq (sExpr (eMt appD (eVar 3) (aCons (eVar 7) (aNil)))) (sNil))) (sNil)) (sNil))
def L_reached_2 : SF := sFor (iSq (eCall F_indexes (aCons (eVar 0) (aNil)))) (gNm 5) (sSeq (L_reached_1) (sNil))
def L_reached_3 : SF := sWhile (fun _ _ => 1000) (tVal (eB (eqD true) (eVar 3) (eLst (aNil)))) (sSeq (sAsg (eMt0 popD (eVar 3)) (gNm 4)) (sSeq (L_reached_2) (sNil)))
def F_reached : FF := fnB 8 2 (sSeq (sPar [2, 3] (aCons (eDsp1M (eVar 1) (eC (.bl true))) (aCons (eLstM (aCons (eVar 1) (aNil))) (aNil)))) (sSeq (L_reached_3) (sSeq (sRet (eFz (eVar 2))) (sNil))))
/-! paper (k10 k20) -/
def K_paper_1 : EF := eLc [7] (iSq (eCall F_indexes (aCons (eVar 0) (aNil)))) (gNm 7) (tVal (eB (eqD false) (eMeth 1 (F_Worths_of_box 60) (eVar 2) (aCons (eVar 4) (aCons (eVar 7) (aNil)))) (eVar 5))) (eVar 7)
def L_paper_1 : SF := sFor (iSq (eSrtK (aCons (eCall F_reached (aCons (eVar 0) (aCons (eVar 1) (aNil)))) (aNil)))) (gNm 4) (sSeq (sAsg (eMeth 1 (F_Worths_of 60) (eVar 2) (aCons (eVar 4) (aNil))) (gNm 5)) (sSeq (sAsg (eB ixD (K_paper_1) (eC (.int 0))) (gNm 6)) (sSeq (sExpr (eMt appD (eVar 3) (aCons (eTup (aCons (eVar 4) (aCons (eVar 6) (aCons (eVar 5) (aNil))))) (aNil)))) (sNil))))
def F_paper : FF := fnB 8 2 (sSeq (sExpr (eCall F_check_standing (aCons (eVar 0) (aCons (eVar 1) (aNil))))) (sSeq (sAsg (eTup (aCons (eCall F_mean_worths (aCons (eVar 0) (aCons (eC C_DRAWS) (aCons (eC (.fn 2)) (aNil))))) (aCons (eLstM (aNil)) (aNil)))) (gTp 2 (gsCons (gNm 2) (gsCons (gNm 3) (gsNil))))) (sSeq (L_paper_1) (sSeq (sRet (eFz (eVar 3))) (sNil)))))
/-! check_pair (k11 k20) -/
def F_check_pair : FF := fnB 2 2 (sSeq (sIf (tVal (eB (eqD true) (eCall lenD (aCons (eFld ct "told" (eVar 0)) (aNil))) (eCall lenD (aCons (eFld ct "told" (eVar 1)) (aNil))))) (sSeq (sRz0 11) (sNil)) (sNil)) (sNil))
/-! chances_at (k11 k20) -/
def K_chances_at_1 : EF := eDc [3, 4, 5] (iSq (eCall F_moves_of (aCons (eVar 0) (aCons (eVar 1) (aCons (eVar 2) (aNil)))))) (gTp 3 (gsCons (gNm 3) (gsCons (gNm 4) (gsCons (gNm 5) (gsNil))))) (eVar 3) (eTup (aCons (eVar 4) (aCons (eVar 5) (aNil))))
def F_chances_at : FF := fnB 6 3 (sSeq (sRet (K_chances_at_1)) (sNil))
/-! first_unlike (k11 k20) -/
def K_first_unlike_1 : EF := eDc [6, 7] (iIt (eVar 4)) (gTp 2 (gsCons (gNm 6) (gsCons (gNm 7) (gsNil)))) (eVar 6) (eB ixD (eVar 7) (eC (.int 0)))
def K_first_unlike_2 : EF := eDc [6, 7] (iIt (eVar 5)) (gTp 2 (gsCons (gNm 6) (gsCons (gNm 7) (gsNil)))) (eVar 6) (eB ixD (eVar 7) (eC (.int 0)))
def L_first_unlike_1 : SF := sFor (iSq (eCall F_indexes (aCons (eVar 0) (aNil)))) (gNm 3) (sSeq (sPar [4, 5] (aCons (eCall F_chances_at (aCons (eVar 0) (aCons (eB ixD (eVar 2) (eC (.int 0))) (aCons (eVar 3) (aNil))))) (aCons (eCall F_chances_at (aCons (eVar 1) (aCons (eB ixD (eVar 2) (eC (.int 1))) (aCons (eVar 3) (aNil))))) (aNil)))) (sSeq (sIf (tVal (eB neDic (K_first_unlike_1) (K_first_unlike_2))) (sSeq (sRet (eVar 3)) (sNil)) (sNil)) (sNil)))
def F_first_unlike : FF := fnB 8 3 (sSeq (L_first_unlike_1) (sSeq (sRet (eC .non)) (sNil)))
/-! parting_of (k11 k20) -/
def L_parting_of_1 : SF := sFor (iSq (eVar 2)) (gTp 2 (gsCons (gNm 4) (gsCons (gNm 5) (gsNil)))) (sSeq (sAsg (eCall F_first_unlike (aCons (eVar 0) (aCons (eVar 1) (aCons (eVar 5) (aNil))))) (gNm 6)) (sSeq (sIf (tVal (eB (isN true) (eVar 6) (eC .non))) (sSeq (sRet (eTup (aCons (eVar 4) (aCons (eVar 6) (aNil))))) (sNil)) (sNil)) (sNil)))
def L_parting_of_2 : SF := sFor (iSq (eSrtK (aCons (eVar 8) (aNil)))) (gNm 10) (sSeq (sAsg (eTup (aCons (eB ixD (eB ixD (eVar 8) (eVar 10)) (eC (.int 1))) (aCons (eB ixD (eB ixD (eVar 9) (eVar 10)) (eC (.int 1))) (aNil)))) (gNm 11)) (sSeq (sIf (tVal (eB (inD true) (eVar 11) (eVar 3))) (sSeq (sPut (eC (.bl true)) (eVar 3) (eVar 11)) (sSeq (sExpr (eMt appD (eVar 7) (aCons (eTup (aCons (eTup (aStar (eVar 4) (aCons (eTup (aCons (eVar 6) (aCons (eVar 10) (aNil)))) (aNil)))) (aCons (eVar 11) (aNil)))) (aNil)))) (sNil))) (sNil)) (sNil)))
def L_parting_of_3 : SF := sFor (iSq (eCall F_indexes (aCons (eVar 0) (aNil)))) (gNm 6) (sSeq (sPar [8, 9] (aCons (eCall F_chances_at (aCons (eVar 0) (aCons (eB ixD (eVar 5) (eC (.int 0))) (aCons (eVar 6) (aNil))))) (aCons (eCall F_chances_at (aCons (eVar 1) (aCons (eB ixD (eVar 5) (eC (.int 1))) (aCons (eVar 6) (aNil))))) (aNil)))) (sSeq (L_parting_of_2) (sNil)))
def L_parting_of_4 : SF := sFor (iSq (eVar 2)) (gTp 2 (gsCons (gNm 4) (gsCons (gNm 5) (gsNil)))) (sSeq (L_parting_of_3) (sNil))
def L_parting_of_5 : SF := sWhile (fun _ _ => 1000) (tVal (eB (eqD true) (eVar 2) (eLst (aNil)))) (sSeq (L_parting_of_1) (sSeq (sAsg (eLstM (aNil)) (gNm 7)) (sSeq (L_parting_of_4) (sSeq (sAsg (eVar 7) (gNm 2)) (sNil)))))
def F_parting_of : FF := fnB 12 2 (sSeq (sPar [2, 3] (aCons (eLst (aCons (eTup (aCons (eTup (aNil)) (aCons (eTup (aCons (eC C_FIRST) (aCons (eC C_FIRST) (aNil)))) (aNil)))) (aNil))) (aCons (eDsp1M (eTup (aCons (eC C_FIRST) (aCons (eC C_FIRST) (aNil)))) (eC (.bl true))) (aNil)))) (sSeq (L_parting_of_5) (sSeq (sRet (eC .non)) (sNil))))
/-! parting (k11 k20) -/
def F_parting : FF := fnB 2 2 (sSeq (sExpr (eCall F_check_pair (aCons (eVar 0) (aCons (eVar 1) (aNil))))) (sSeq (sRet (eCall F_parting_of (aCons (eVar 0) (aCons (eVar 1) (aNil))))) (sNil)))
/-! alike (k11) -/
def F_alike : FF := fnB 2 2 (sSeq (sExpr (eCall F_check_pair (aCons (eVar 0) (aCons (eVar 1) (aNil))))) (sSeq (sRet (eB (isN false) (eCall F_parting_of (aCons (eVar 0) (aCons (eVar 1) (aNil)))) (eC .non))) (sNil)))
/-! behind (k11 k18 k20) -/
def L_behind_1 : SF := sFor (iRn1 (aCons (eB addD (eC C_MOST_WITHIN) (eC (.int 1))) (aNil))) (gNm 4) (sSeq (sIf (tVal (eCall F_is_less (aCons (eMeth 2 (F_Within_of 60) (eVar 2) (aCons (eC C_FIRST) (aCons (eVar 4) (aNil)))) (aCons (eMeth 2 (F_Within_of 60) (eVar 3) (aCons (eC C_FIRST) (aCons (eVar 4) (aNil)))) (aNil))))) (sSeq (sRet (eVar 4)) (sNil)) (sNil)) (sNil))
def F_behind : FF := fnB 5 2 (sSeq (sPar [2, 3] (aCons (eMkF ct 2 F_Within_init [] (aCons (eVar 0) (aCons (eC C_DRAWS) (aNil)))) (aCons (eMkF ct 2 F_Within_init [] (aCons (eVar 1) (aCons (eC C_DRAWS) (aNil)))) (aNil)))) (sSeq (L_behind_1) (sSeq (sRet (eC .non)) (sNil))))
/-! _law_changes (k12 k13 k18) -/
def K__law_changes_1 : EF := eLc [3] (iRn1 (aCons (eB subD (eCall lenD (aCons (eB ixD (eB ixD (eB ixD (eVar 0) (eC (.str "boxes"))) (eVar 2)) (eC (.int 3))) (aNil))) (eC (.int 1))) (aNil))) (gNm 3) (tYesD) (eTup (aCons (eC (.str "sure")) (aCons (eVar 2) (aCons (eVar 3) (aNil)))))
def L__law_changes_1 : SF := sFor (iRn1 (aCons (eCall lenD (aCons (eB ixD (eVar 0) (eC (.str "boxes"))) (aNil))) (aNil))) (gNm 2) (sSeq (sIf (tVal (eB ltD (eB ixD (eB ixD (eB ixD (eVar 0) (eC (.str "boxes"))) (eVar 2)) (eC (.int 2))) (eC (.int 100)))) (sSeq (sExpr (eMt appD (eVar 1) (aCons (eTup (aCons (eC (.str "half")) (aCons (eVar 2) (aNil)))) (aNil)))) (sNil)) (sNil)) (sSeq (sAsg (eB addM (eVar 1) (K__law_changes_1)) (gNm 1)) (sNil)))
def F__law_changes : FF := fnB 4 1 (sSeq (sAsg (eLstM (aNil)) (gNm 1)) (sSeq (L__law_changes_1) (sSeq (sRet (eSrt (aCons (eVar 1) (aNil)))) (sNil))))
/-! _law_changed (k12 k13) -/
def K__law_changed_1 : EF := eLc [9] (iSq (eVar 1)) (gNm 9) (tAndD (tVal (eB (eqD false) (eB ixD (eVar 9) (eC (.int 0))) (eC (.str "sure")))) (tVal (eB (eqD false) (eB ixD (eVar 9) (eC (.int 1))) (eVar 3)))) (eB ixD (eVar 9) (eC (.int 2)))
def L__law_changed_1 : SF := sFor (iRn1 (aCons (eCall lenD (aCons (eB ixD (eVar 0) (eC (.str "boxes"))) (aNil))) (aNil))) (gNm 3) (sSeq (sAsg (eB ixD (eB ixD (eVar 0) (eC (.str "boxes"))) (eVar 3)) (gTp 4 (gsCons (gNm 4) (gsCons (gNm 5) (gsCons (gNm 6) (gsCons (gNm 7) (gsNil))))))) (sSeq (sIf (tVal (eB (inD false) (eTup (aCons (eC (.str "half")) (aCons (eVar 3) (aNil)))) (eVar 1))) (sSeq (sAsg (eC (.int 100)) (gNm 6)) (sNil)) (sNil)) (sSeq (sAsg (K__law_changed_1) (gNm 8)) (sSeq (sIf (tVal (eB (eqD true) (eVar 8) (eLst (aNil)))) (sSeq (sAsg (eB addD (eSl (eVar 7) (oNo) (oSo (eCall minD (aCons (eVar 8) (aNil))))) (eTup (aCons (eC (.int 100)) (aNil)))) (gNm 7)) (sNil)) (sNil)) (sSeq (sExpr (eMt appD (eVar 2) (aCons (eTup (aCons (eVar 4) (aCons (eVar 5) (aCons (eVar 6) (aCons (eVar 7) (aNil)))))) (aNil)))) (sNil))))))
def F__law_changed : FF := fnB 10 2 (sSeq (sAsg (eLstM (aNil)) (gNm 2)) (sSeq (L__law_changed_1) (sSeq (sRet (eDsp [("boxes" : Str), ("kept" : Str)] (aCons (eCall tupD (aCons (eVar 2) (aNil))) (aCons (eB ixD (eVar 0) (eC (.str "kept"))) (aNil))))) (sNil))))
/-! sets_of (k12 k19 k20) -/
def F_sets_of : Nat → FF
  | 0 => fun _ _ => .no
  | k + 1 => fnB 6 2 (sSeq (sIf (tVal (eB (eqD false) (eVar 1) (eC (.int 0)))) (sSeq (sRet (eLst (aCons (eTup (aNil)) (aNil)))) (sNil)) (sNil)) (sSeq (sAsg (eLstM (aNil)) (gNm 2)) (sSeq ((sFor (iEn (aCons (eVar 0) (aNil))) (gTp 2 (gsCons (gNm 3) (gsCons (gNm 4) (gsNil)))) (sSeq (sExpr (eMt extD (eVar 2) (aCons ((eLc [5] (iSq (eCall (F_sets_of k) (aCons (eSl (eVar 0) (oSo (eB addD (eVar 3) (eC (.int 1)))) (oNo)) (aCons (eB subD (eVar 1) (eC (.int 1))) (aNil))))) (gNm 5) (tYesD) (eTup (aCons (eVar 4) (aStar (eVar 5) (aNil)))))) (aNil)))) (sNil)))) (sSeq (sRet (eFz (eVar 2))) (sNil)))))
def K_sets_of_1 (k : Nat) : EF := eLc [5] (iSq (eCall (F_sets_of k) (aCons (eSl (eVar 0) (oSo (eB addD (eVar 3) (eC (.int 1)))) (oNo)) (aCons (eB subD (eVar 1) (eC (.int 1))) (aNil))))) (gNm 5) (tYesD) (eTup (aCons (eVar 4) (aStar (eVar 5) (aNil))))
def L_sets_of_1 (k : Nat) : SF := sFor (iEn (aCons (eVar 0) (aNil))) (gTp 2 (gsCons (gNm 3) (gsCons (gNm 4) (gsNil)))) (sSeq (sExpr (eMt extD (eVar 2) (aCons ((K_sets_of_1 k)) (aNil)))) (sNil))
/-! all_changes (k12 k13 k18 k19 k20) -/
def K_all_changes_1 : EF := eLc [7] (iRn1 (aCons (eB subD (eCall lenD (aCons (eVar 6) (aNil))) (eC (.int 1))) (aNil))) (gNm 7) (tYesD) (eTup (aCons (eC C_SURER) (aCons (eVar 2) (aCons (eVar 7) (aNil)))))
def L_all_changes_1 : SF := sFor (iEn (aCons (eFld ct "told" (eVar 0)) (aNil))) (gTp 2 (gsCons (gNm 2) (gsCons (gTp 4 (gsCons (gNm 3) (gsCons (gNm 4) (gsCons (gNm 5) (gsCons (gNm 6) (gsNil)))))) (gsNil)))) (sSeq (sExpr (eMt extD (eVar 1) (aCons (eIf (tVal (eB ltD (eVar 5) (eC C_SURE))) (eLst (aCons (eTup (aCons (eC C_HALF) (aCons (eVar 2) (aNil)))) (aNil))) (eLst (aNil))) (aNil)))) (sSeq (sExpr (eMt extD (eVar 1) (aCons (K_all_changes_1) (aNil)))) (sNil)))
def F_all_changes : FF := fnB 8 1 (sSeq (sAsg (eLstM (aNil)) (gNm 1)) (sSeq (L_all_changes_1) (sSeq (sRet (eSrt (aCons (eVar 1) (aNil)))) (sNil))))
/-! with_changes (k12 k13 k18 k19 k20) -/
def K_with_changes_1 : EF := eLc [10] (iSq (eVar 1)) (gNm 10) (tAndD (tVal (eB (eqD false) (eB ixD (eVar 10) (eC (.int 0))) (eC C_SURER))) (tVal (eB (eqD false) (eB ixD (eVar 10) (eC (.int 1))) (eVar 3)))) (eB ixD (eVar 10) (eC (.int 2)))
def L_with_changes_1 : SF := sFor (iEn (aCons (eFld ct "told" (eVar 0)) (aNil))) (gTp 2 (gsCons (gNm 3) (gsCons (gTp 4 (gsCons (gNm 4) (gsCons (gNm 5) (gsCons (gNm 6) (gsCons (gNm 7) (gsNil)))))) (gsNil)))) (sSeq (sAsg (K_with_changes_1) (gNm 8)) (sSeq (sAsg (eIf (tVal (eB (eqD true) (eVar 8) (eLst (aNil)))) (eTup (aStar (eSl (eVar 7) (oNo) (oSo (eCall minD (aCons (eVar 8) (aNil))))) (aCons (eC C_SURE) (aNil)))) (eVar 7)) (gNm 9)) (sSeq (sExpr (eMt appD (eVar 2) (aCons (eTup (aCons (eVar 4) (aCons (eVar 5) (aCons (eIf (tVal (eB (inD false) (eTup (aCons (eC C_HALF) (aCons (eVar 3) (aNil)))) (eVar 1))) (eC C_SURE) (eVar 6)) (aCons (eVar 9) (aNil)))))) (aNil)))) (sNil))))
def F_with_changes : FF := fnB 11 2 (sSeq (sAsg (eLstM (aNil)) (gNm 2)) (sSeq (L_with_changes_1) (sSeq (sRet (eMkF ct 0 F_Book_init [] (aCons (eCall tupD (aCons (eVar 2) (aNil))) (aCons (eFld ct "left" (eVar 0)) (aNil))))) (sNil))))
/-! mends (k12 k19 k20) -/
def K_mends_1 : EF := eLc [5] (iSq (eVar 3)) (gNm 5) (tVal (eB leD (eCall F_surest_of (aCons (eCall F_with_changes (aCons (eVar 0) (aCons (eVar 5) (aNil)))) (aCons (eC C_FIRST) (aNil)))) (eVar 1))) (eVar 5)
def L_mends_1 : SF := sFor (iRn1 (aCons (eB addD (eC C_MOST_CHANGES) (eC (.int 1))) (aNil))) (gNm 2) (sSeq (sAsg (eCall (F_sets_of 4) (aCons (eCall F_all_changes (aCons (eVar 0) (aNil))) (aCons (eVar 2) (aNil)))) (gNm 3)) (sSeq (sAsg (K_mends_1) (gNm 4)) (sSeq (sIf (tVal (eB (eqD true) (eVar 4) (eLst (aNil)))) (sSeq (sRet (eVar 4)) (sNil)) (sNil)) (sNil))))
def F_mends : FF := fnB 6 2 (sSeq (sExpr (eCall F_check_number (aCons (eVar 1) (aCons (eC (.int 1)) (aCons (eC C_MOST_GOAL) (aNil)))))) (sSeq (L_mends_1) (sSeq (sRet (eLst (aNil))) (sNil))))
/-! is_change (k13 k18) -/
def K_is_change_1 : EF := eLc [2] (iSq (eSl (eVar 1) (oSo (eC (.int 1))) (oNo))) (gNm 2) (tYesD) (eCall F_is_from (aCons (eVar 2) (aCons (eC (.int 0)) (aCons (eC C_MOST_GOAL) (aNil)))))
def F_is_change : FF := fnB 3 2 (sSeq (sIf (tOrD (tNotD (tVal (eIsi "tuple" (eVar 1)))) (tOrD (tVal (eB (inD true) (eCall lenD (aCons (eVar 1) (aNil))) (eTup (aCons (eC (.int 2)) (aCons (eC (.int 3)) (aNil)))))) (tNotD (tVal (eIsi "str" (eB ixD (eVar 1) (eC (.int 0)))))))) (sSeq (sRet (eC (.bl false))) (sNil)) (sNil)) (sSeq (sRet (eAnd (eCall allD (aCons (K_is_change_1) (aNil))) (eB (inD false) (eVar 1) (eCall F_all_changes (aCons (eVar 0) (aNil)))))) (sNil)))
/-! changed (k13 k18) -/
def L_changed_1 : SF := sFor (iEn (aCons (eVar 1) (aNil))) (gTp 2 (gsCons (gNm 2) (gsCons (gNm 3) (gsNil)))) (sSeq (sIf (tOrD (tNotD (tVal (eCall F_is_change (aCons (eVar 0) (aCons (eVar 3) (aNil)))))) (tVal (eB (inD false) (eVar 3) (eSl (eCall lisD (aCons (eVar 1) (aNil))) (oNo) (oSo (eVar 2)))))) (sSeq (sRz1 14 1 (aCons (eVar 2) (aNil))) (sNil)) (sNil)) (sNil))
def F_changed : FF := fnB 4 2 (sSeq (L_changed_1) (sSeq (sRet (eCall F_with_changes (aCons (eVar 0) (aCons (eCall lisD (aCons (eVar 1) (aNil))) (aNil))))) (sNil)))
/-! is_draw (k14 k19 k20) -/
def F_is_draw : FF := fnB 2 2 (sSeq (sIf (tOrD (tNotD (tVal (eIsi "tuple" (eVar 1)))) (tOrD (tVal (eB (eqD true) (eCall lenD (aCons (eVar 1) (aNil))) (eC (.int 2)))) (tNotD (tVal (eCall F_is_from (aCons (eB ixD (eVar 1) (eC (.int 0))) (aCons (eC (.int 0)) (aCons (eB subD (eCall lenD (aCons (eFld ct "told" (eVar 0)) (aNil))) (eC (.int 1))) (aNil))))))))) (sSeq (sRet (eC (.bl false))) (sNil)) (sNil)) (sSeq (sRet (eAnd (eIsi "str" (eB ixD (eVar 1) (eC (.int 1)))) (eB (inD false) (eB ixD (eVar 1) (eC (.int 1))) (eC C_WORDS)))) (sNil)))
/-! check_seen (k14 k19 k20) -/
def L_check_seen_1 : SF := sFor (iEn (aCons (eVar 1) (aNil))) (gTp 2 (gsCons (gNm 2) (gsCons (gNm 3) (gsNil)))) (sSeq (sIf (tNotD (tVal (eCall F_is_draw (aCons (eVar 0) (aCons (eVar 3) (aNil)))))) (sSeq (sRz1 15 1 (aCons (eVar 2) (aNil))) (sNil)) (sNil)) (sNil))
def F_check_seen : FF := fnB 4 2 (sSeq (L_check_seen_1) (sNil))
/-! led (k14 k19 k20) -/
def K_led_1 : EF := eLc [7, 8, 9] (iSq (eCall F_moves_of (aCons (eVar 0) (aCons (eVar 1) (aCons (eVar 4) (aNil)))))) (gTp 3 (gsCons (gNm 7) (gsCons (gNm 8) (gsCons (gNm 9) (gsNil))))) (tVal (eB (eqD false) (eVar 7) (eVar 5))) (eTup (aCons (eVar 8) (aCons (eVar 9) (aNil))))
def L_led_1 : SF := sFor (iSq (eVar 2)) (gTp 2 (gsCons (gNm 4) (gsCons (gNm 5) (gsNil)))) (sSeq (sAsg (K_led_1) (gNm 6)) (sSeq (sIf (tVal (eB (eqD false) (eVar 6) (eLst (aNil)))) (sSeq (sRet (eTup (aCons (eC .non) (aCons (eC C_ZERO) (aNil))))) (sNil)) (sNil)) (sSeq (sPar [3, 1] (aCons (eCall F_times (aCons (eVar 3) (aCons (eB ixD (eB ixD (eVar 6) (eC (.int 0))) (eC (.int 0))) (aNil)))) (aCons (eB ixD (eB ixD (eVar 6) (eC (.int 0))) (eC (.int 1))) (aNil)))) (sNil))))
def F_led : FF := fnB 10 3 (sSeq (sAsg (eC C_ONE) (gNm 3)) (sSeq (L_led_1) (sSeq (sRet (eTup (aCons (eVar 1) (aCons (eVar 3) (aNil))))) (sNil))))
/-! fitting (k14 k19 k20) -/
def K_fitting_1 : EF := eLc [2] (iKy (eCall F_standings_of (aCons (eVar 0) (aNil)))) (gNm 2) (tVal (eB (isN true) (eB ixD (eCall F_led (aCons (eVar 0) (aCons (eVar 2) (aCons (eVar 1) (aNil))))) (eC (.int 0))) (eC .non))) (eVar 2)
def F_fitting : FF := fnB 3 2 (sSeq (sExpr (eCall F_check_seen (aCons (eVar 0) (aCons (eVar 1) (aNil))))) (sSeq (sRet (eSrt (aCons (K_fitting_1) (aNil)))) (sNil)))
/-! after (k14) -/
def F_after : FF := fnB 3 3 (sSeq (sExpr (eCall F_check_standing (aCons (eVar 0) (aCons (eVar 1) (aNil))))) (sSeq (sExpr (eCall F_check_seen (aCons (eVar 0) (aCons (eVar 2) (aNil))))) (sSeq (sRet (eB ixD (eCall F_led (aCons (eVar 0) (aCons (eVar 1) (aCons (eVar 2) (aNil))))) (eC (.int 0)))) (sNil))))
/-! chance_of (k14) -/
def F_chance_of : FF := fnB 3 3 (sSeq (sExpr (eCall F_check_standing (aCons (eVar 0) (aCons (eVar 1) (aNil))))) (sSeq (sExpr (eCall F_check_seen (aCons (eVar 0) (aCons (eVar 2) (aNil))))) (sSeq (sRet (eB ixD (eCall F_led (aCons (eVar 0) (aCons (eVar 1) (aCons (eVar 2) (aNil))))) (eC (.int 1)))) (sNil))))
/-! Table.__init__ (k15 k20) -/
def F_Table_init : FF := fnB 3 3 (sSeq (sExpr (eCall F_check_number (aCons (eVar 2) (aCons (eC (.int 0)) (aCons (eC C_MOST_TICKETS) (aNil)))))) (sSeq (sFst ct "rules" (eVar 1) (eVar 0)) (sSeq (sFst ct "rows" (eTup (aCons (eTup (aCons (eC C_FIRST) (aCons (eVar 2) (aCons (eC (.int 0)) (aNil))))) (aNil))) (eVar 0)) (sNil))))
/-! Table.undo (k15) -/
def F_Table_undo : FF := fnB 1 1 (sSeq (sIf (tVal (eB (eqD false) (eCall lenD (aCons (eFld ct "rows" (eVar 0)) (aNil))) (eC (.int 1)))) (sSeq (sRet (eC (.bl false))) (sNil)) (sNil)) (sSeq (sFst ct "rows" (eSl (eFld ct "rows" (eVar 0)) (oNo) (oSo (eC (.int (-1))))) (eVar 0)) (sSeq (sRet (eC (.bl true))) (sNil))))
/-! Table.copy (k15) -/
def F_Table_copy : FF := fnB 2 1 (sSeq (sAsg (eMk 4 F_Table_init [] (aCons (eFld ct "rules" (eVar 0)) (aCons (eC (.int 0)) (aNil)))) (gNm 1)) (sSeq (sFst ct "rows" (eFld ct "rows" (eVar 0)) (eVar 1)) (sSeq (sRet (eVar 1)) (sNil))))
/-! Table.draw (k15) -/
def K_Table_draw_1 : EF := eLc [8, 9, 10] (iSq (eCall F_moves_of (aCons (eFld ct "rules" (eVar 0)) (aCons (eVar 3) (aCons (eVar 1) (aNil)))))) (gTp 3 (gsCons (gNm 8) (gsCons (gNm 9) (gsCons (gNm 10) (gsNil))))) (tVal (eB (eqD false) (eVar 8) (eVar 2))) (eVar 10)
def F_Table_draw : FF := fnB 11 3 (sSeq (sIf (tOrD (tNotD (tVal (eCall F_is_from (aCons (eVar 1) (aCons (eC (.int 0)) (aCons (eB subD (eCall lenD (aCons (eFld ct "told" (eFld ct "rules" (eVar 0))) (aNil))) (eC (.int 1))) (aNil))))))) (tNotD (tVal (eIsi "str" (eVar 2))))) (sSeq (sRz0 12) (sNil)) (sNil)) (sSeq (sAsg (eB ixD (eFld ct "rows" (eVar 0)) (eC (.int (-1)))) (gTp 3 (gsCons (gNm 3) (gsCons (gNm 4) (gsCons (gNm 5) (gsNil)))))) (sSeq (sAsg (K_Table_draw_1) (gNm 6)) (sSeq (sAsg (eB subD (eVar 4) (eB ixD (eB ixD (eFld ct "told" (eFld ct "rules" (eVar 0))) (eVar 1)) (eC (.int 1)))) (gNm 7)) (sSeq (sIf (tOrD (tVal (eB (eqD false) (eVar 6) (eLst (aNil)))) (tVal (eB ltD (eVar 7) (eC (.int 0))))) (sSeq (sRz0 12) (sNil)) (sNil)) (sSeq (sFst ct "rows" (eTup (aStar (eFld ct "rows" (eVar 0)) (aCons (eTup (aCons (eB ixD (eVar 6) (eC (.int 0))) (aCons (eVar 7) (aCons (eB addD (eVar 5) (eCall intD (aCons (eB (eqD false) (eVar 2) (eC C_WISHED)) (aNil)))) (aNil))))) (aNil)))) (eVar 0)) (sNil)))))))
/-! Table.__len__ (k15) -/
def F_Table_len : FF := fnB 1 1 (sSeq (sRet (eCall lenD (aCons (eSl (eFld ct "rows" (eVar 0)) (oSo (eC (.int 1))) (oNo)) (aNil)))) (sNil))
/-! Table.won (k15) -/
def F_Table_won : FF := fnB 1 1 (sSeq (sRet (eB ixD (eB ixD (eFld ct "rows" (eVar 0)) (eC (.int (-1)))) (eC (.int 2)))) (sNil))
/-! Table.tickets (k15) -/
def F_Table_tickets : FF := fnB 1 1 (sSeq (sRet (eB ixD (eB ixD (eFld ct "rows" (eVar 0)) (eC (.int (-1)))) (eC (.int 1)))) (sNil))
/-! Table.standing (k15) -/
def F_Table_standing : FF := fnB 1 1 (sSeq (sRet (eB ixD (eB ixD (eFld ct "rows" (eVar 0)) (eC (.int (-1)))) (eC (.int 0)))) (sNil))
/-! Table.best (k15 k20) -/
def L_Table_best_1 : SF := sFor (iSq (eCall F_indexes (aCons (eFld ct "rules" (eVar 0)) (aNil)))) (gNm 7) (sSeq (sAsg (eMeth 2 (F_Within_of_box 60) (eVar 4) (aCons (eVar 1) (aCons (eVar 2) (aCons (eVar 7) (aNil))))) (gNm 8)) (sSeq (sIf (tAndD (tVal (eB (isN true) (eVar 8) (eC .non))) (tOrD (tVal (eB (isN false) (eVar 5) (eC .non))) (tVal (eCall F_is_less (aCons (eVar 6) (aCons (eVar 8) (aNil))))))) (sSeq (sPar [5, 6] (aCons (eVar 7) (aCons (eVar 8) (aNil)))) (sNil)) (sNil)) (sNil)))
def F_Table_best : FF := fnB 9 1 (sSeq (sAsg (eB ixD (eFld ct "rows" (eVar 0)) (eC (.int (-1)))) (gTp 3 (gsCons (gNm 1) (gsCons (gNm 2) (gsCons (gNm 3) (gsNil)))))) (sSeq (sPar [4, 5, 6] (aCons (eMkF ct 2 F_Within_init [] (aCons (eFld ct "rules" (eVar 0)) (aCons (eC C_TICKETS) (aNil)))) (aCons (eC .non) (aCons (eC .non) (aNil))))) (sSeq (L_Table_best_1) (sSeq (sRet (eVar 5)) (sNil)))))
/-! _law_lines (k16) -/
def K__law_lines_1 : EF := eLc [6] (iSq (eB addD (eTup (aCons (eVar 2) (aCons (eVar 3) (aCons (eVar 4) (aNil))))) (eVar 5))) (gNm 6) (tYesD) (eCall strD (aCons (eVar 6) (aNil)))
def L__law_lines_1 : SF := sFor (iSq (eB ixD (eVar 0) (eC (.str "boxes")))) (gTp 4 (gsCons (gNm 2) (gsCons (gNm 3) (gsCons (gNm 4) (gsCons (gNm 5) (gsNil)))))) (sSeq (sExpr (eMt appD (eVar 1) (aCons (eJoin (eC (.str " ")) (eB addD (eLst (aCons (eC (.str "box")) (aNil))) (K__law_lines_1))) (aNil)))) (sNil))
def K__law_lines_2 : EF := eLc [6] (iSq (eB ixD (eVar 0) (eC (.str "kept")))) (gNm 6) (tYesD) (eCall strD (aCons (eVar 6) (aNil)))
def F__law_lines : FF := fnB 7 1 (sSeq (sAsg (eLstM (aNil)) (gNm 1)) (sSeq (L__law_lines_1) (sSeq (sRet (eB addD (eVar 1) (eLst (aCons (eJoin (eC (.str " ")) (eB addD (eLst (aCons (eC (.str "kept")) (aNil))) (K__law_lines_2))) (aNil))))) (sNil))))
/-! write (k16 k20) -/
def K_write_1 : EF := eLc [6] (iSq (eVar 5)) (gNm 6) (tYesD) (eCall strD (aCons (eVar 6) (aNil)))
def K_write_2 : EF := eLc [6] (iSq (eTup (aCons (eVar 2) (aCons (eVar 3) (aCons (eVar 4) (aNil)))))) (gNm 6) (tYesD) (eCall strD (aCons (eVar 6) (aNil)))
def L_write_1 : SF := sFor (iSq (eProp 0 F_Book_boxes (eVar 0))) (gTp 4 (gsCons (gNm 2) (gsCons (gNm 3) (gsCons (gNm 4) (gsCons (gNm 5) (gsNil)))))) (sSeq (sExpr (eMt appD (eVar 1) (aCons (eJoin (eC (.str " ")) (eLst (aCons (eC C_BOX) (aStar (K_write_2) (aStar (K_write_1) (aNil)))))) (aNil)))) (sNil))
def K_write_3 : EF := eLc [6] (iSq (eProp 0 F_Book_kept (eVar 0))) (gNm 6) (tYesD) (eCall strD (aCons (eVar 6) (aNil)))
def F_write : FF := fnB 7 1 (sSeq (sAsg (eLstM (aNil)) (gNm 1)) (sSeq (L_write_1) (sSeq (sExpr (eMt appD (eVar 1) (aCons (eJoin (eC (.str " ")) (eLst (aCons (eC C_KEPT) (aStar (K_write_3) (aNil))))) (aNil)))) (sSeq (sRet (eJoin (eC (.str "\n")) (eVar 1))) (sNil)))))
/-! number_in (k16 k17) -/
def K_number_in_1 : EF := eLc [3] (iSt (eVar 0)) (gNm 3) (tYesD) (eB (inD false) (eVar 3) (eC C_DIGITS))
def F_number_in : FF := fnB 4 3 (sSeq (sIf (tOrD (tNotD (tVal (eCh leD leD (eC (.int 1)) (eCall lenD (aCons (eVar 0) (aNil))) (eC (.int 3))))) (tOrD (tNotD (tVal (eCall allD (aCons (K_number_in_1) (aNil))))) (tVal (eB (eqD true) (eCall strD (aCons (eCall intD (aCons (eVar 0) (aNil))) (aNil))) (eVar 0))))) (sSeq (sRet (eC (.int (-1)))) (sNil)) (sNil)) (sSeq (sRet (eIf (tVal (eCh leD leD (eVar 1) (eCall intD (aCons (eVar 0) (aNil))) (eVar 2))) (eCall intD (aCons (eVar 0) (aNil))) (eC (.int (-1))))) (sNil)))
/-! box_in (k16 k17) -/
def L_box_in_1 : SF := sFor (iEn (aCons (eLst (aCons (eTup (aCons (eC (.int 0)) (aCons (eC (.int 1)) (aNil)))) (aCons (eTup (aCons (eC (.int 1)) (aCons (eC (.int 3)) (aNil)))) (aCons (eTup (aCons (eC (.int 1)) (aCons (eC C_SURE) (aNil)))) (aNil))))) (aNil))) (gTp 2 (gsCons (gNm 3) (gsCons (gTp 2 (gsCons (gNm 4) (gsCons (gNm 5) (gsNil)))) (gsNil)))) (sSeq (sIf (tOrD (tVal (eB geD (eB addD (eVar 3) (eC (.int 1))) (eCall lenD (aCons (eVar 0) (aNil))))) (tVal (eB ltD (eCall F_number_in (aCons (eB ixD (eVar 0) (eB addD (eVar 3) (eC (.int 1)))) (aCons (eVar 4) (aCons (eVar 5) (aNil))))) (eC (.int 0))))) (sSeq (sRz1 16 2 (aCons (eVar 1) (aCons (eB addD (eVar 3) (eC (.int 2))) (aNil)))) (sNil)) (sNil)) (sSeq (sExpr (eMt appD (eVar 2) (aCons (eCall F_number_in (aCons (eB ixD (eVar 0) (eB addD (eVar 3) (eC (.int 1)))) (aCons (eVar 4) (aCons (eVar 5) (aNil))))) (aNil)))) (sNil)))
def L_box_in_2 : SF := sFor (iRn2 (aCons (eC (.int 4)) (aCons (eCall lenD (aCons (eVar 0) (aNil))) (aNil)))) (gNm 3) (sSeq (sAsg (eIf (tVal (eB (eqD false) (eCall lenD (aCons (eVar 6) (aNil))) (eB subD (eC C_MOST_CHANCES) (eC (.int 1))))) (eC C_SURE) (eC (.int 0))) (gNm 4)) (sSeq (sIf (tOrD (tVal (eB (eqD false) (eSl (eVar 6) (oSo (eC (.int (-1)))) (oNo)) (eLst (aCons (eC C_SURE) (aNil))))) (tVal (eB ltD (eCall F_number_in (aCons (eB ixD (eVar 0) (eVar 3)) (aCons (eVar 4) (aCons (eC C_SURE) (aNil))))) (eC (.int 0))))) (sSeq (sRz1 16 2 (aCons (eVar 1) (aCons (eB addD (eVar 3) (eC (.int 1))) (aNil)))) (sNil)) (sNil)) (sSeq (sExpr (eMt appD (eVar 6) (aCons (eCall F_number_in (aCons (eB ixD (eVar 0) (eVar 3)) (aCons (eVar 4) (aCons (eC C_SURE) (aNil))))) (aNil)))) (sNil))))
def F_box_in : FF := fnB 7 2 (sSeq (sAsg (eLstM (aNil)) (gNm 2)) (sSeq (L_box_in_1) (sSeq (sAsg (eLstM (aNil)) (gNm 6)) (sSeq (L_box_in_2) (sSeq (sIf (tVal (eB (eqD true) (eSl (eVar 6) (oSo (eC (.int (-1)))) (oNo)) (eLst (aCons (eC C_SURE) (aNil))))) (sSeq (sRz1 16 2 (aCons (eVar 1) (aCons (eB addD (eCall lenD (aCons (eVar 0) (aNil))) (eC (.int 1))) (aNil)))) (sNil)) (sNil)) (sSeq (sRet (eTup (aStar (eVar 2) (aCons (eCall tupD (aCons (eVar 6) (aNil))) (aNil))))) (sNil)))))))
/-! kept_in (k16 k17) -/
def L_kept_in_1 : SF := sFor (iRn2 (aCons (eC (.int 1)) (aCons (eCall lenD (aCons (eVar 0) (aNil))) (aNil)))) (gNm 3) (sSeq (sAsg (eIf (tVal (eB (eqD true) (eVar 2) (eLst (aNil)))) (eB addD (eB ixD (eVar 2) (eC (.int (-1)))) (eC (.int 1))) (eC (.int 0))) (gNm 4)) (sSeq (sIf (tVal (eB ltD (eCall F_number_in (aCons (eB ixD (eVar 0) (eVar 3)) (aCons (eVar 4) (aCons (eC (.int 1)) (aNil))))) (eC (.int 0)))) (sSeq (sRz1 16 2 (aCons (eVar 1) (aCons (eB addD (eVar 3) (eC (.int 1))) (aNil)))) (sNil)) (sNil)) (sSeq (sExpr (eMt appD (eVar 2) (aCons (eCall F_number_in (aCons (eB ixD (eVar 0) (eVar 3)) (aCons (eVar 4) (aCons (eC (.int 1)) (aNil))))) (aNil)))) (sNil))))
def F_kept_in : FF := fnB 5 2 (sSeq (sAsg (eLstM (aNil)) (gNm 2)) (sSeq (L_kept_in_1) (sSeq (sRet (eCall tupD (aCons (eVar 2) (aNil)))) (sNil))))
/-! read (k16 k17) -/
def K_read_1 : EF := eLc [7] (iSq (eSplit (eVar 5) (eC (.str " ")))) (gNm 7) (tVal (eB (eqD true) (eVar 7) (eC (.str "")))) (eVar 7)
def L_read_1 : SF := sFor (iEn (aCons (eVar 3) (aNil))) (gTp 2 (gsCons (gNm 4) (gsCons (gNm 5) (gsNil)))) (sSeq (sAsg (K_read_1) (gNm 6)) (sSeq (sIf (tAndD (tVal (eB (eqD false) (eSl (eVar 6) (oNo) (oSo (eC (.int 1)))) (eLst (aCons (eC C_BOX) (aNil))))) (tAndD (tVal (eB (isN false) (eVar 2) (eC .non))) (tVal (eB ltD (eCall lenD (aCons (eVar 1) (aNil))) (eC C_MOST_BOXES))))) (sSeq (sExpr (eMt appD (eVar 1) (aCons (eCall F_box_in (aCons (eVar 6) (aCons (eB addD (eVar 4) (eC (.int 1))) (aNil)))) (aNil)))) (sNil)) (sSeq (sIf (tAndD (tVal (eB (eqD false) (eSl (eVar 6) (oNo) (oSo (eC (.int 1)))) (eLst (aCons (eC C_KEPT) (aNil))))) (tAndD (tVal (eB (isN false) (eVar 2) (eC .non))) (tVal (eB (eqD true) (eVar 1) (eLst (aNil)))))) (sSeq (sAsg (eCall F_kept_in (aCons (eVar 6) (aCons (eB addD (eVar 4) (eC (.int 1))) (aNil)))) (gNm 2)) (sNil)) (sSeq (sRz1 16 2 (aCons (eB addD (eVar 4) (eC (.int 1))) (aCons (eC (.int 1)) (aNil)))) (sNil))) (sNil))) (sNil)))
def F_read : FF := fnB 8 1 (sSeq (sPar [1, 2, 3] (aCons (eLstM (aNil)) (aCons (eC .non) (aCons (eSplit (eVar 0) (eC (.str "\n"))) (aNil))))) (sSeq (L_read_1) (sSeq (sIf (tVal (eB (isN false) (eVar 2) (eC .non))) (sSeq (sRz1 16 2 (aCons (eB addD (eCall lenD (aCons (eVar 3) (aNil))) (eC (.int 1))) (aCons (eC (.int 1)) (aNil)))) (sNil)) (sNil)) (sSeq (sRet (eMkF ct 0 F_Book_init [] (aCons (eCall tupD (aCons (eVar 1) (aNil))) (aCons (eVar 2) (aNil))))) (sNil)))))
/-! spread (k22 k23) -/
def L_spread_1 : SF := sFor (iSq (eCall F_moves_of (aCons (eVar 0) (aCons (eVar 7) (aCons (eVar 2) (aNil)))))) (gTp 3 (gsCons (gNm 10) (gsCons (gNm 11) (gsCons (gNm 12) (gsNil))))) (sSeq (sAsg (eTup (aCons (eVar 12) (aCons (eB addD (eVar 8) (eCall intD (aCons (eB (eqD false) (eVar 10) (eC C_WISHED)) (aNil)))) (aNil)))) (gNm 13)) (sSeq (sPut (eCall F_plus (aCons (eGet (eVar 6) (eVar 13) (eC C_ZERO)) (aCons (eCall F_times (aCons (eVar 9) (aCons (eVar 11) (aNil)))) (aNil)))) (eVar 6) (eVar 13)) (sNil)))
def L_spread_2 : SF := sFor (iIt (eVar 4)) (gTp 2 (gsCons (gTp 2 (gsCons (gNm 7) (gsCons (gNm 8) (gsNil)))) (gsCons (gNm 9) (gsNil)))) (sSeq (L_spread_1) (sNil))
def L_spread_3 : SF := sFor (iRn1 (aCons (eVar 3) (aNil))) (gNm 5) (sSeq (sAsg (eDicM true) (gNm 6)) (sSeq (L_spread_2) (sSeq (sAsg (eFz (eVar 6)) (gNm 4)) (sNil))))
def L_spread_4 : SF := sFor (iIt (eVar 4)) (gTp 2 (gsCons (gTp 2 (gsCons (gNm 7) (gsCons (gNm 8) (gsNil)))) (gsCons (gNm 9) (gsNil)))) (sSeq (sPut (eCall F_plus (aCons (eB ixD (eVar 14) (eVar 8)) (aCons (eVar 9) (aNil)))) (eVar 14) (eVar 8)) (sNil))
def F_spread : FF := fnB 15 4 (sSeq (sExpr (eCall F_check_standing (aCons (eVar 0) (aCons (eVar 1) (aNil))))) (sSeq (sExpr (eCall F_check_number (aCons (eVar 2) (aCons (eC (.int 0)) (aCons (eB subD (eCall lenD (aCons (eFld ct "told" (eVar 0)) (aNil))) (eC (.int 1))) (aNil)))))) (sSeq (sExpr (eCall F_check_number (aCons (eVar 3) (aCons (eC (.int 0)) (aCons (eC C_MOST_DRAWS) (aNil)))))) (sSeq (sAsg (eDsp1 (eTup (aCons (eVar 1) (aCons (eC (.int 0)) (aNil)))) (eC C_ONE)) (gNm 4)) (sSeq (L_spread_3) (sSeq (sAsg (eB repM (eLstM (aCons (eC C_ZERO) (aNil))) (eB addD (eVar 3) (eC (.int 1)))) (gNm 14)) (sSeq (L_spread_4) (sSeq (sRet (eCall tupD (aCons (eVar 14) (aNil)))) (sNil)))))))))
/-! Wins.mean (k22 k23) -/
def F_Wins_mean : Nat → FF
  | 0 => fun _ _ => .no
  | k + 1 => fnB 10 3 (sSeq (sIf (tVal (eB (eqD false) (eVar 2) (eC (.int 0)))) (sSeq (sRet (eC C_ZERO)) (sNil)) (sNil)) (sSeq (sIf (tVal (eB (inD true) (eTup (aCons (eVar 1) (aCons (eVar 2) (aNil)))) (eFld ct "known" (eVar 0)))) (sSeq (sAsg (eLstM (aNil)) (gNm 3)) (sSeq ((sFor (iSq (eCall F_indexes (aCons (eFld ct "own" (eVar 0)) (aNil)))) (gNm 4) (sSeq (sAsg (eC C_ZERO) (gNm 5)) (sSeq ((sFor (iSq (eCall F_moves_of (aCons (eFld ct "own" (eVar 0)) (aCons (eVar 1) (aCons (eVar 4) (aNil)))))) (gTp 3 (gsCons (gNm 6) (gsCons (gNm 7) (gsCons (gNm 8) (gsNil))))) (sSeq (sAsg (eMeth 5 (F_Wins_mean k) (eVar 0) (aCons (eVar 8) (aCons (eB subD (eVar 2) (eC (.int 1))) (aNil)))) (gNm 9)) (sSeq (sAsg (eCall F_plus (aCons (eVar 5) (aCons (eCall F_times (aCons (eVar 7) (aCons (eIf (tVal (eB (eqD false) (eVar 6) (eC C_WISHED))) (eCall F_plus (aCons (eVar 9) (aCons (eC C_ONE) (aNil)))) (eVar 9)) (aNil)))) (aNil)))) (gNm 5)) (sNil))))) (sSeq (sExpr (eMt appD (eVar 3) (aCons (eVar 5) (aNil)))) (sNil)))))) (sSeq (sPut (eCall F_greatest (aCons (eVar 3) (aNil))) (eFld ct "known" (eVar 0)) (eTup (aCons (eVar 1) (aCons (eVar 2) (aNil))))) (sNil)))) (sNil)) (sSeq (sRet (eB ixD (eFld ct "known" (eVar 0)) (eTup (aCons (eVar 1) (aCons (eVar 2) (aNil)))))) (sNil))))
def L_Wins_mean_1 (k : Nat) : SF := sFor (iSq (eCall F_moves_of (aCons (eFld ct "own" (eVar 0)) (aCons (eVar 1) (aCons (eVar 4) (aNil)))))) (gTp 3 (gsCons (gNm 6) (gsCons (gNm 7) (gsCons (gNm 8) (gsNil))))) (sSeq (sAsg (eMeth 5 (F_Wins_mean k) (eVar 0) (aCons (eVar 8) (aCons (eB subD (eVar 2) (eC (.int 1))) (aNil)))) (gNm 9)) (sSeq (sAsg (eCall F_plus (aCons (eVar 5) (aCons (eCall F_times (aCons (eVar 7) (aCons (eIf (tVal (eB (eqD false) (eVar 6) (eC C_WISHED))) (eCall F_plus (aCons (eVar 9) (aCons (eC C_ONE) (aNil)))) (eVar 9)) (aNil)))) (aNil)))) (gNm 5)) (sNil)))
def L_Wins_mean_2 (k : Nat) : SF := sFor (iSq (eCall F_indexes (aCons (eFld ct "own" (eVar 0)) (aNil)))) (gNm 4) (sSeq (sAsg (eC C_ZERO) (gNm 5)) (sSeq ((L_Wins_mean_1 k)) (sSeq (sExpr (eMt appD (eVar 3) (aCons (eVar 5) (aNil)))) (sNil))))
/-! Wins.__init__ (k22 k23) -/
def F_Wins_init : FF := fnB 2 2 (sSeq (sFst ct "own" (eVar 1) (eVar 0)) (sSeq (sFst ct "known" (eDicM true) (eVar 0)) (sNil)))
/-! most_wins (k22 k23) -/
def F_most_wins : FF := fnB 3 3 (sSeq (sExpr (eCall F_check_standing (aCons (eVar 0) (aCons (eVar 1) (aNil))))) (sSeq (sExpr (eCall F_check_number (aCons (eVar 2) (aCons (eC (.int 0)) (aCons (eC C_MOST_DRAWS) (aNil)))))) (sSeq (sRet (eMeth 5 (F_Wins_mean 20) (eMkF ct 5 F_Wins_init [] (aCons (eVar 0) (aNil))) (aCons (eVar 1) (aCons (eVar 2) (aNil))))) (sNil))))
/-! Wins.least_of (k22 k23) -/
def F_Wins_least_of : Nat → FF
  | 0 => fun _ _ => .no
  | k + 1 => fnB 11 4 (sSeq (sIf (tOrD (tVal (eB (eqD false) (eVar 2) (eC (.int 0)))) (tVal (eB gtD (eVar 2) (eVar 3)))) (sSeq (sRet (eIf (tVal (eB (eqD false) (eVar 2) (eC (.int 0)))) (eC C_ONE) (eC C_ZERO))) (sNil)) (sNil)) (sSeq (sIf (tVal (eB (inD true) (eTup (aCons (eVar 1) (aCons (eVar 2) (aCons (eVar 3) (aNil))))) (eFld ct "known" (eVar 0)))) (sSeq (sAsg (eLstM (aNil)) (gNm 4)) (sSeq ((sFor (iSq (eCall F_indexes (aCons (eFld ct "own" (eVar 0)) (aNil)))) (gNm 5) (sSeq (sAsg (eC C_ZERO) (gNm 6)) (sSeq ((sFor (iSq (eCall F_moves_of (aCons (eFld ct "own" (eVar 0)) (aCons (eVar 1) (aCons (eVar 5) (aNil)))))) (gTp 3 (gsCons (gNm 7) (gsCons (gNm 8) (gsCons (gNm 9) (gsNil))))) (sSeq (sAsg (eMeth 5 (F_Wins_least_of k) (eVar 0) (aCons (eVar 9) (aCons (eB subD (eVar 2) (eCall intD (aCons (eB (eqD false) (eVar 7) (eC C_WISHED)) (aNil)))) (aCons (eB subD (eVar 3) (eC (.int 1))) (aNil))))) (gNm 10)) (sSeq (sAsg (eCall F_plus (aCons (eVar 6) (aCons (eCall F_times (aCons (eVar 8) (aCons (eVar 10) (aNil)))) (aNil)))) (gNm 6)) (sNil))))) (sSeq (sExpr (eMt appD (eVar 4) (aCons (eVar 6) (aNil)))) (sNil)))))) (sSeq (sPut (eCall F_greatest (aCons (eVar 4) (aNil))) (eFld ct "known" (eVar 0)) (eTup (aCons (eVar 1) (aCons (eVar 2) (aCons (eVar 3) (aNil)))))) (sNil)))) (sNil)) (sSeq (sRet (eB ixD (eFld ct "known" (eVar 0)) (eTup (aCons (eVar 1) (aCons (eVar 2) (aCons (eVar 3) (aNil))))))) (sNil))))
def L_Wins_least_of_1 (k : Nat) : SF := sFor (iSq (eCall F_moves_of (aCons (eFld ct "own" (eVar 0)) (aCons (eVar 1) (aCons (eVar 5) (aNil)))))) (gTp 3 (gsCons (gNm 7) (gsCons (gNm 8) (gsCons (gNm 9) (gsNil))))) (sSeq (sAsg (eMeth 5 (F_Wins_least_of k) (eVar 0) (aCons (eVar 9) (aCons (eB subD (eVar 2) (eCall intD (aCons (eB (eqD false) (eVar 7) (eC C_WISHED)) (aNil)))) (aCons (eB subD (eVar 3) (eC (.int 1))) (aNil))))) (gNm 10)) (sSeq (sAsg (eCall F_plus (aCons (eVar 6) (aCons (eCall F_times (aCons (eVar 8) (aCons (eVar 10) (aNil)))) (aNil)))) (gNm 6)) (sNil)))
def L_Wins_least_of_2 (k : Nat) : SF := sFor (iSq (eCall F_indexes (aCons (eFld ct "own" (eVar 0)) (aNil)))) (gNm 5) (sSeq (sAsg (eC C_ZERO) (gNm 6)) (sSeq ((L_Wins_least_of_1 k)) (sSeq (sExpr (eMt appD (eVar 4) (aCons (eVar 6) (aNil)))) (sNil))))
/-! at_least (k22 k23) -/
def F_at_least : FF := fnB 4 4 (sSeq (sExpr (eCall F_check_standing (aCons (eVar 0) (aCons (eVar 1) (aNil))))) (sSeq (sExpr (eCall F_check_number (aCons (eVar 2) (aCons (eC (.int 0)) (aCons (eC C_MOST_DRAWS) (aNil)))))) (sSeq (sExpr (eCall F_check_number (aCons (eVar 3) (aCons (eC (.int 0)) (aCons (eC C_MOST_DRAWS) (aNil)))))) (sSeq (sRet (eMeth 5 (F_Wins_least_of 20) (eMkF ct 5 F_Wins_init [] (aCons (eVar 0) (aNil))) (aCons (eVar 1) (aCons (eVar 2) (aCons (eVar 3) (aNil)))))) (sNil)))))
end SZ
end
section
/-! PA: plain lemmas on the functions on data: sizes, trunc, loops, comprehensions. -/
namespace SZ
open PySem PySem.Spec
theorem le_size {n : Nat} (h : n ≤ 1000) : n ≤ sizeLine := Nat.le_of_lt (L2.small1000 h)
theorem lt_size {n : Nat} (h : n ≤ 1000) : n < sizeLine := L2.small1000 h
theorem trunc_gen {μ μ' : MH} {d : D} (h : d.bel μ.length = true) (k : keepOk μ.length μ μ' = true) : trunc μ (.ok d μ') = .ok d (μ'.take μ.length) := by
  simp only [trunc, h, k, Bool.and_self, if_true]
theorem trunc_len {μ μ' : MH} {d : D} (h : μ'.length = μ.length) : trunc μ (.ok d μ') = .ok d μ' := by
  unfold trunc
  simp only []
  split
  · rw [← h, List.take_length]
  · rfl
theorem trunc_exlen {μ μ' : MH} {c : Nat} {ds : List D} (h : μ'.length = μ.length) : trunc μ (.ex c ds μ') = .ex c ds μ' := by
  unfold trunc
  simp only []
  split
  · rw [← h, List.take_length]
  · rfl
theorem fnB_run {nl np : Nat} {body : SF} {ds : List D} {μ : MH} (h : ds.length = np) : fnB nl np body ds μ = trunc μ (body (ds.map some ++ List.replicate (nl - np) none) μ).fin := if_pos h
/-- one object changed, more made behind -/
theorem trunc_one {a b : Option MO} {rest more : MH} {d : D} (h : d.bel (rest.length + 1) = true) (k : keep1 (rest.length + 1) a b = true) : trunc (a :: rest) (.ok d (b :: (rest ++ more))) = .ok d (b :: rest) := by
  rw [trunc_gen (by simpa using h) (by
    show (keep1 _ a b && keepOk _ rest (rest ++ more)) = true
    rw [keepOk_self]
    simpa using k)]
  simp
theorem bels_app {n : Nat} : ∀ {l m : List D}, bels n (l ++ m) = (bels n l && bels n m)
  | [], m => by simp [bels]
  | d :: l, m => by simp [bels, bels_app (l := l), Bool.and_assoc]
theorem bels_all {n : Nat} : ∀ {l : List D}, (∀ d ∈ l, d.bel n = true) → bels n l = true
  | [], _ => rfl
  | d :: l, h => by simp [bels, h d (by simp), bels_all (l := l) fun x hx => h x (List.mem_cons_of_mem _ hx)]
@[simp] theorem bels_ints {n : Nat} {l : List Int} : bels n (l.map D.int) = true := bels_all fun d h => by
  obtain ⟨i, _, rfl⟩ := List.mem_map.mp h
  rfl
/-- a for loop: P tells what holds before the rest is walked; Good what is wanted of the end -/
theorem sForL_ind {chk : MH → Bool} {g : GF} {f : SF} {P : List D → Sl → MH → Prop} {Good : SR → Prop}
    (fin : ∀ δ μ, P [] δ μ → chk μ = true ∧ Good (.nx δ μ))
    (step : ∀ d r δ μ, P (d :: r) δ μ → chk μ = true ∧ ∃ δ1 μ1, g d δ μ = .ok δ1 μ1 ∧ ((∃ δ2 μ2, (f δ1 μ1 = .nx δ2 μ2 ∨ f δ1 μ1 = .ct δ2 μ2) ∧ P r δ2 μ2) ∨ (∃ x μ2, f δ1 μ1 = .rt x μ2 ∧ Good (.rt x μ2)) ∨ (∃ δ2 μ2, f δ1 μ1 = .bk δ2 μ2 ∧ Good (.nx δ2 μ2)) ∨ ∃ c ds δ2 μ2, f δ1 μ1 = .ex c ds δ2 μ2 ∧ Good (.ex c ds δ2 μ2))) :
    ∀ (l : List D) (δ : Sl) (μ : MH), P l δ μ → Good (sForL chk g f l δ μ)
  | [], δ, μ, h => by
    obtain ⟨hc, hg⟩ := fin δ μ h
    unfold sForL
    rw [if_pos hc]
    exact hg
  | d :: r, δ, μ, h => by
    obtain ⟨hc, δ1, μ1, hg, q⟩ := step d r δ μ h
    unfold sForL
    rw [if_pos hc, hg]
    simp only
    rcases q with ⟨δ2, μ2, e | e, p⟩ | ⟨x, μ2, e, p⟩ | ⟨δ2, μ2, e, p⟩ | ⟨c, ds, δ2, μ2, e, p⟩
    · rw [e]; exact sForL_ind fin step r δ2 μ2 p
    · rw [e]; exact sForL_ind fin step r δ2 μ2 p
    · rw [e]; exact p
    · rw [e]; exact p
    · rw [e]; exact p
theorem lcL_fm {chk : MH → Bool} {g : GF} {t : TF} {fe : EF} {δw : Sl} {μ : MH} {p : D → Bool} {y : D → D} (hc : ∀ acc, chk (μ ++ [some (.lst acc)]) = true) :
    ∀ (l acc : List D), acc.length + l.length ≤ 1000 → (∀ d ∈ l, ∀ acc, ∃ δ2, g d δw (μ ++ [some (.lst acc)]) = .ok δ2 (μ ++ [some (.lst acc)]) ∧ t δ2 (μ ++ [some (.lst acc)]) = .ok (p d) (μ ++ [some (.lst acc)]) ∧ (p d = true → fe δ2 (μ ++ [some (.lst acc)]) = .ok (y d) (μ ++ [some (.lst acc)]))) →
      lcL μ.length chk g t fe δw l (μ ++ [some (.lst acc)]) = .ok (.ref μ.length) (μ ++ [some (.lst (acc ++ (l.filter p).map y))])
  | [], acc, _, _ => by simp [lcL, hc]
  | d :: r, acc, hl, h => by
    obtain ⟨δ2, h1, h2, h3⟩ := h d (by simp) acc
    unfold lcL
    rw [if_pos (hc acc), h1]
    simp only [h2, R.nox, R.bind]
    cases hp : p d with
    | false =>
      simp only [Bool.false_eq_true, if_false]
      rw [lcL_fm hc r acc (by simp at hl; omega) fun x hx => h x (List.mem_cons_of_mem _ hx), List.filter_cons_of_neg (by simp [hp])]
    | true =>
      simp only [if_true, h3 hp]
      have e : (μ ++ [some (MO.lst acc)])[μ.length]? = some (some (.lst acc)) := by simp
      rw [e]
      simp only []
      have hlt : acc.length < sizeLine := lt_size (by simp at hl; omega)
      rw [if_pos hlt]
      have e2 : (μ ++ [some (MO.lst acc)]).set μ.length (some (.lst (acc ++ [y d]))) = μ ++ [some (.lst (acc ++ [y d]))] := by simp
      rw [e2, lcL_fm hc r (acc ++ [y d]) (by simp at hl ⊢; omega) fun x hx => h x (List.mem_cons_of_mem _ hx), List.filter_cons_of_pos hp]
      simp
/-- a comprehension without a change of the heap -/
theorem eLc_fm {vs : List Nat} {fi : IF} {g : GF} {t : TF} {fe : EF} {δ : Sl} {μ : MH} {chk : MH → Bool} {l : List D} (p : D → Bool) (y : D → D) (hfi : fi δ μ = .ok (chk, l) μ) (hl : l.length ≤ 1000) (hc : ∀ acc, chk (μ ++ [some (.lst acc)]) = true)
    (h : ∀ d ∈ l, ∀ acc, ∃ δ2, g d (wipeD δ vs) (μ ++ [some (.lst acc)]) = .ok δ2 (μ ++ [some (.lst acc)]) ∧ t δ2 (μ ++ [some (.lst acc)]) = .ok (p d) (μ ++ [some (.lst acc)]) ∧ (p d = true → fe δ2 (μ ++ [some (.lst acc)]) = .ok (y d) (μ ++ [some (.lst acc)])))
    (hb : ∀ d ∈ l, p d = true → (y d).bel μ.length = true) : eLc vs fi g t fe δ μ = .ok (.lst ((l.filter p).map y)) μ := by
  simp only [eLc, hfi, R.bind]
  rw [lcL_fm hc l [] (by simpa using hl) h]
  simp only [List.nil_append, frzD, List.getElem?_append_right (Nat.le_refl _), Nat.sub_self, List.getElem?_cons_zero]
  have e : (μ ++ [some (MO.lst ((l.filter p).map y))]).set μ.length none = μ ++ [none] := by simp
  rw [e, trunc_ok]
  show bels _ _ = true
  refine bels_all fun d hd => ?_
  obtain ⟨x, hx, rfl⟩ := List.mem_map.mp hd
  obtain ⟨h1, h2⟩ := List.mem_filter.mp hx
  exact hb x h1 h2
theorem eLc_map {vs : List Nat} {fi : IF} {g : GF} {fe : EF} {δ : Sl} {μ : MH} {chk : MH → Bool} {l : List D} (y : D → D) (hfi : fi δ μ = .ok (chk, l) μ) (hl : l.length ≤ 1000) (hc : ∀ acc, chk (μ ++ [some (.lst acc)]) = true)
    (h : ∀ d ∈ l, ∀ acc, ∃ δ2, g d (wipeD δ vs) (μ ++ [some (.lst acc)]) = .ok δ2 (μ ++ [some (.lst acc)]) ∧ fe δ2 (μ ++ [some (.lst acc)]) = .ok (y d) (μ ++ [some (.lst acc)]))
    (hb : ∀ d ∈ l, (y d).bel μ.length = true) : eLc vs fi g tYesD fe δ μ = .ok (.lst (l.map y)) μ := by
  rw [eLc_fm (fun _ => true) y hfi hl hc (fun d hd acc => ?_) fun d hd _ => hb d hd]
  · rw [List.filter_eq_self.mpr (by simp)]
  · obtain ⟨δ2, h1, h2⟩ := h d hd acc
    exact ⟨δ2, h1, rfl, fun _ => h2⟩
theorem iRn1_ok {g : AF} {δ : Sl} {μ μ' : MH} {n : Nat} (h : g δ μ = .ok [.int n] μ') (hn : n ≤ 1000 := by omega) : iRn1 g δ μ = .ok (fun _ => true, rngD 0 n) μ' := by
  simp only [iRn1, h, R.bind]
  rw [if_pos (rngOk_iff.mpr (by omega)), Int.toNat_natCast]
/-! ### words for simp -/
@[simp] theorem ixN_nat {n i : Nat} : L2.ixN n (i : Int) = if i < n then some i else none := by
  unfold L2.ixN
  simp
@[simp] theorem ixN_ofNat {n i : Nat} : L2.ixN n (no_index (OfNat.ofNat i : Int)) = if (OfNat.ofNat i : Nat) < n then some (OfNat.ofNat i) else none := ixN_nat (i := OfNat.ofNat i)
@[simp] theorem ixN_zero {n : Nat} : L2.ixN n 0 = if 0 < n then some 0 else none := ixN_nat (i := 0)
@[simp] theorem ixN_one {n : Nat} : L2.ixN n 1 = if 1 < n then some 1 else none := ixN_nat (i := 1)
@[simp] theorem atI_nat {α : Type} {l : List α} {i : Nat} : L2.atI l (i : Int) = l[i]? := by
  unfold L2.atI
  rw [ixN_nat]
  by_cases h : i < l.length
  · rw [if_pos h]; rfl
  · rw [if_neg h, List.getElem?_eq_none (by omega)]; rfl
@[simp] theorem atI_ofNat {α : Type} {l : List α} {i : Nat} : L2.atI l (no_index (OfNat.ofNat i : Int)) = l[(OfNat.ofNat i : Nat)]? := atI_nat (i := OfNat.ofNat i)
@[simp] theorem atI_zero {α : Type} {l : List α} : L2.atI l 0 = l[0]? := atI_nat (i := 0)
@[simp] theorem atI_one {α : Type} {l : List α} : L2.atI l 1 = l[1]? := atI_nat (i := 1)
@[simp] theorem atI_neg1 {α : Type} {l : List α} : L2.atI l (-1) = l.getLast? := by
  unfold L2.atI L2.ixN
  rw [if_neg (by omega)]
  cases l with
  | nil => simp
  | cons x r =>
    rw [if_pos (by simp only [List.length_cons]; omega)]
    have e : ((-1 : Int) + ((x :: r).length : Nat)).toNat = (x :: r).length - 1 := by simp only [List.length_cons]; omega
    rw [e, List.getLast?_eq_getElem?]
    rfl
theorem atI_of {α : Type} {l : List α} {v : Int} (h : 0 ≤ v) (h2 : v < l.length) : ∃ x, L2.atI l v = some x ∧ x ∈ l := by
  obtain ⟨n, rfl⟩ := Int.eq_ofNat_of_zero_le h
  rw [atI_nat]
  have hn : n < l.length := by omega
  exact ⟨l[n], List.getElem?_eq_getElem hn, List.getElem_mem hn⟩
@[simp] theorem py_non : py .non = some .none := rfl
@[simp] theorem py_bl {b : Bool} : py (.bl b) = some (.bool b) := rfl
@[simp] theorem py_int {i : Int} : py (.int i) = some (.int i) := rfl
@[simp] theorem py_str {x : Str} : py (.str x) = some (.str x) := rfl
@[simp] theorem py_tup {l : List D} : py (.tup l) = (pys l).map .tuple := rfl
@[simp] theorem py_lst {l : List D} : py (.lst l) = (pys l).map .list := rfl
@[simp] theorem pys_nil : pys [] = some [] := rfl
theorem pys_cons {d : D} {l : List D} {p : PyData} {ps : List PyData} (h : py d = some p) (t : pys l = some ps) : pys (d :: l) = some (p :: ps) := by simp [pys, h, t]
@[simp] theorem pys_ints {l : List Int} : pys (l.map D.int) = some (l.map .int) := by
  induction l with
  | nil => rfl
  | cons a r ih => exact pys_cons rfl ih
@[simp] theorem dep_non : PyData.depth .none = 0 := rfl
@[simp] theorem dep_bl {b : Bool} : PyData.depth (.bool b) = 0 := rfl
@[simp] theorem dep_int {b : Int} : PyData.depth (.int b) = 0 := rfl
@[simp] theorem dep_str {b : Str} : PyData.depth (.str b) = 0 := rfl
@[simp] theorem dep_tup {l : List PyData} : PyData.depth (.tuple l) = PyData.depthAll l + 1 := rfl
@[simp] theorem dep_lst {l : List PyData} : PyData.depth (.list l) = PyData.depthAll l + 1 := rfl
@[simp] theorem deps_nil : PyData.depthAll [] = 0 := rfl
@[simp] theorem deps_cons {p : PyData} {l : List PyData} : PyData.depthAll (p :: l) = max p.depth (PyData.depthAll l) := rfl
@[simp] theorem deps_ints {l : List Int} : PyData.depthAll (l.map .int) = 0 := by
  induction l with
  | nil => rfl
  | cons a r ih => simp [ih]
@[simp] theorem eqv_int {i j : Int} : PyData.eqv (.int i) (.int j) = (i == j) := by simp [PyData.eqv]
@[simp] theorem eqv_str {i j : Str} : PyData.eqv (.str i) (.str j) = (i == j) := by simp [PyData.eqv]
@[simp] theorem eqv_bl {i j : Bool} : PyData.eqv (.bool i) (.bool j) = (i == j) := by simp [PyData.eqv]
@[simp] theorem eqv_tup {i j : List PyData} : PyData.eqv (.tuple i) (.tuple j) = PyData.eqvAll i j := by simp [PyData.eqv]
@[simp] theorem eqv_lst {i j : List PyData} : PyData.eqv (.list i) (.list j) = PyData.eqvAll i j := by simp [PyData.eqv]
@[simp] theorem eqv_nil : PyData.eqvAll [] [] = true := by simp [PyData.eqvAll]
@[simp] theorem eqv_nilc {y : PyData} {ys : List PyData} : PyData.eqvAll [] (y :: ys) = false := by simp [PyData.eqvAll]
@[simp] theorem eqv_cnil {y : PyData} {ys : List PyData} : PyData.eqvAll (y :: ys) [] = false := by simp [PyData.eqvAll]
@[simp] theorem eqv_cons {x y : PyData} {xs ys : List PyData} : PyData.eqvAll (x :: xs) (y :: ys) = (PyData.eqv x y && PyData.eqvAll xs ys) := by simp [PyData.eqvAll]
end SZ
end
section
/-! PD: what the laws draw: the functions on data that every law has, and what they answer. -/
namespace SZ
open PySem PySem.Spec
def row (ns : List Int) (i : Nat) (b s : Int) : List D := [.lst (ns.map D.int), .int i, .int b, .int s]
abbrev M (ns : List Int) (i : Nat) (b s : Int) (rest : MH) : MH := some (.lst (row ns i b s)) :: rest
@[simp] theorem sz4 : 4 ≤ sizeLine := le_size (by decide)
theorem draws_ok (ns : List Int) : F__law_draws [.lst (ns.map D.int)] [] = .ok (.ref 0) (M ns 0 0 7 []) := by
  simp [F__law_draws, fnB, M, row, trunc, D.bel]
@[simp] theorem row_bel {n : Nat} {ns : List Int} {i : Nat} {b s : Int} : bels n (row ns i b s) = true := by simp [row, bels, D.bel]
theorem keep_row {n : Nat} {ns : List Int} {i i' : Nat} {b b' s s' : Int} : keep1 n (some (.lst (row ns i b s))) (some (.lst (row ns i' b' s'))) = true := by
  simp [keep1, MO.bel]
theorem divOk_small {m : Int} (hm : 0 < m) (hm2 : m ≤ 1000) : divOk m = true := by
  simp only [divOk, Bool.and_eq_true, decide_eq_true_eq]
  refine ⟨hm, ?_⟩
  have : m.natAbs < 2 ^ 10 := by omega
  by_cases h0 : m.natAbs = 0
  · omega
  · have := (Nat.log2_lt h0).mpr this
    omega
theorem mulOk_r {i j : Int} (h : j.natAbs < 2 ^ 64) : mulOk i j = true := by
  simp only [mulOk, decide_eq_true h, Bool.or_true, Bool.true_or]
@[simp] theorem mulOk_1 {i : Int} : mulOk i 48271 = true := mulOk_r (by decide)
@[simp] theorem mulOk_2 {i : Int} : mulOk i 69621 = true := mulOk_r (by decide)
@[simp] theorem mulOk_3 {i : Int} : mulOk i 16807 = true := mulOk_r (by decide)
@[simp] theorem trunc_cons {a b : Option MO} {rest : MH} {d : D} : trunc (a :: rest) (.ok d (b :: rest)) = .ok d (b :: rest) := trunc_len rfl
theorem pick_low (ns : List Int) (i : Nat) (b s : Int) (rest : MH) (m : Int) (hm : 0 < m) (hm2 : m ≤ 1000) :
    ∃ i' b' s' v, F__law_pick [.ref 0, .int m] (M ns i b s rest) = .ok (.int v) (M ns i' b' s' rest) ∧ 0 ≤ v ∧ v < m := by
  have hd : divOk m = true := divOk_small hm hm2
  by_cases hb : b = 0
  · by_cases hi : i < ns.length
    · by_cases hc : (1000000000000000000 : Int) ≤ ns[i]
      · refine ⟨i + 1, ns[i] / m, s, ns[i] % m, ?_, Int.emod_nonneg _ (by omega), Int.emod_lt_of_pos _ hm⟩
        have hp : 0 < ns[i] := by omega
        simp [F__law_pick, fnB, M, row, hb, hi, hc, hp, hm, hd]
      · refine ⟨i + 1, 0, (s * 48271 + ns[i] * 69621 + 11) % 2147483647, ((s * 48271 + ns[i] * 69621 + 11) % 2147483647 * 16807 % 2147483629) % m, ?_, Int.emod_nonneg _ (by omega), Int.emod_lt_of_pos _ hm⟩
        simp [F__law_pick, fnB, M, row, hb, hi, hc, hm, hd]
    · refine ⟨i, 0, (s * 48271 + 7) % 2147483647, ((s * 48271 + 7) % 2147483647 * 16807 % 2147483629) % m, ?_, Int.emod_nonneg _ (by omega), Int.emod_lt_of_pos _ hm⟩
      simp [F__law_pick, fnB, M, row, hb, hi, hm, hd]
  · by_cases hp : 0 < b
    · refine ⟨i, b / m, s, b % m, ?_, Int.emod_nonneg _ (by omega), Int.emod_lt_of_pos _ hm⟩
      simp [F__law_pick, fnB, M, row, hb, hp, hm, hd]
    · refine ⟨i, b, s, (s * 16807 % 2147483629) % m, ?_, Int.emod_nonneg _ (by omega), Int.emod_lt_of_pos _ hm⟩
      simp [F__law_pick, fnB, M, row, hb, hp, hm, hd]
/-- a pick, as a number; the row goes on -/
def Rw (ns : List Int) (rest : MH) (μ : MH) : Prop := ∃ i b s, μ = M ns i b s rest
theorem pick_ok {ns : List Int} {rest μ : MH} (h : Rw ns rest μ) (m : Int) (hm : 0 < m) (hm2 : m ≤ 1000) : ∃ v : Nat, ∃ μ', F__law_pick [.ref 0, .int m] μ = .ok (.int v) μ' ∧ (v : Int) < m ∧ Rw ns rest μ' := by
  obtain ⟨i, b, s, rfl⟩ := h
  obtain ⟨i', b', s', v, e, h0, h1⟩ := pick_low ns i b s rest m hm hm2
  obtain ⟨n, rfl⟩ := Int.eq_ofNat_of_zero_le h0
  exact ⟨n, _, e, by omega, i', b', s', rfl⟩
theorem Rw.trunc_ok {ns : List Int} {rest μ μ' : MH} {d : D} (h : Rw ns rest μ) (h' : Rw ns rest μ') : trunc μ (.ok d μ') = .ok d μ' := by
  obtain ⟨i, b, s, rfl⟩ := h
  obtain ⟨i', b', s', rfl⟩ := h'
  exact trunc_len rfl
/-- a box as it is drawn -/
structure Bx where
  k : Int
  p : Int
  h : Int
  cs : List Int
def Bx.enc (x : Bx) : D := .tup [.int x.k, .int x.p, .int x.h, .tup (x.cs.map D.int)]
structure Bx.Ok (x : Bx) (many : Nat) : Prop where
  k : 0 ≤ x.k ∧ x.k < 2
  p : 1 ≤ x.p ∧ x.p ≤ 3
  h : 1 ≤ x.h ∧ x.h ≤ 100
  cs : ∃ l : List Int, x.cs = l ++ [100] ∧ l.length < many ∧ ∀ c ∈ l, 0 ≤ c ∧ c < 100
theorem chance_ok {ns : List Int} {rest μ : MH} (h : Rw ns rest μ) : ∃ c : Int, ∃ v x : Nat, ∃ μ1 μ2, F__law_pick [.ref 0, .int 100] μ = .ok (.int x) μ1 ∧ F__law_pick [.ref 0, .int 4] μ1 = .ok (.int v) μ2 ∧ [D.int 0, .int 10, .int 50, .int x][v]? = some (.int c) ∧ 0 ≤ c ∧ c < 100 ∧ Rw ns rest μ2 := by
  obtain ⟨x, μ1, e1, hx, r1⟩ := pick_ok h 100 (by decide) (by decide)
  obtain ⟨v, μ2, e2, hv, r2⟩ := pick_ok r1 4 (by decide) (by decide)
  have hv' : v = 0 ∨ v = 1 ∨ v = 2 ∨ v = 3 := by omega
  rcases hv' with rfl | rfl | rfl | rfl
  · exact ⟨0, 0, x, μ1, μ2, e1, e2, rfl, by decide, by decide, r2⟩
  · exact ⟨10, 1, x, μ1, μ2, e1, e2, rfl, by decide, by decide, r2⟩
  · exact ⟨50, 2, x, μ1, μ2, e1, e2, rfl, by decide, by decide, r2⟩
  · exact ⟨x, 3, x, μ1, μ2, e1, e2, rfl, by omega, by omega, r2⟩
theorem sz_int {l : List Int} {n : Nat} (h : l.length + n ≤ 1000) : (l.map D.int).length + n ≤ sizeLine := le_size (by simpa using h)
@[simp] theorem rngD_len {lo : Int} {n : Nat} : (rngD lo n).length = n := by simp [rngD]
theorem box_loop {ns : List Int} {rest μ : MH} (h : Rw ns rest μ) (many : Nat) (hm : 0 < many) (hm2 : many ≤ 100) : ∃ (cs : List Int) (o3 : Option D) (μ' : MH),
    L__law_box_1 [some (.ref 0), some (.int many), some (.tup []), none, none] μ = .nx [some (.ref 0), some (.int many), some (.tup (cs.map D.int)), o3, none] μ' ∧ cs.length < many ∧ (∀ c ∈ cs, 0 ≤ c ∧ c < 100) ∧ Rw ns rest μ' := by
  obtain ⟨n, μ1, e1, hn, r1⟩ := pick_ok h many (by omega) (by omega)
  have loop : ∀ (l : List D) (cs : List Int) (o3 : Option D) (μ : MH), Rw ns rest μ → cs.length + l.length ≤ 500 → (∀ c ∈ cs, 0 ≤ c ∧ c < 100) →
      ∃ (cs' : List Int) (o3' : Option D) (μ' : MH), sForL (fun _ => true) (gNm 3) (sSeq (sAsg (eB addD (eVar 2) (eTup (aCons (eB ixD (eLst (aCons (eC (.int 0)) (aCons (eC (.int 10)) (aCons (eC (.int 50)) (aCons (eCall F__law_pick (aCons (eVar 0) (aCons (eC (.int 100)) (aNil)))) (aNil)))))) (eCall F__law_pick (aCons (eVar 0) (aCons (eC (.int 4)) (aNil))))) (aNil)))) (gNm 2)) (sNil)) l
        [some (.ref 0), some (.int many), some (.tup (cs.map D.int)), o3, none] μ = .nx [some (.ref 0), some (.int many), some (.tup (cs'.map D.int)), o3', none] μ' ∧ cs'.length = cs.length + l.length ∧ (∀ c ∈ cs', 0 ≤ c ∧ c < 100) ∧ Rw ns rest μ' := by
    intro l
    induction l with
    | nil => intro cs o3 μ r _ hc; exact ⟨cs, o3, μ, by simp [sForL], by simp, hc, r⟩
    | cons d l ih =>
      intro cs o3 μ r hl hc
      obtain ⟨c, v, x, μa, μb, ea, eb, ev, h0, h1, rb⟩ := chance_ok r
      obtain ⟨cs', o3', μ', e, hl', hc', r'⟩ := ih (cs ++ [c]) (some d) μb rb (by simp at hl ⊢; omega) (fun y hy => by
        rcases List.mem_append.mp hy with hy | hy
        · exact hc y hy
        · simp at hy; subst hy; exact ⟨h0, h1⟩)
      refine ⟨cs', o3', μ', ?_, by simp at hl' ⊢; omega, hc', r'⟩
      have hz : cs.length + 1 ≤ sizeLine := le_size (by simp at hl; omega)
      have hz1 : 1 ≤ sizeLine := le_size (by decide)
      simp only [List.map_append, List.map_cons, List.map_nil] at e
      simp [sForL, ea, eb, ev, hz, hz1, e]
  obtain ⟨cs, o3, μ2, e2, hl2, hc2, r2⟩ := loop (rngD 0 n) [] none μ1 r1 (by simp; omega) (by simp)
  refine ⟨cs, o3, μ2, ?_, by rw [hl2]; simp; omega, hc2, r2⟩
  have hlt : rngOk n = true := rngOk_iff.mpr (by omega)
  have ei : iRn1 (aCons (eCall F__law_pick (aCons (eVar 0) (aCons (eVar 1) (aNil)))) (aNil)) [some (.ref 0), some (.int many), some (.tup []), none, none] μ = .ok (fun _ => true, rngD 0 n) μ1 := by
    simp only [iRn1, aCons, eCall, eVar, aNil, R.bind, List.getElem?_cons_zero, List.getElem?_cons_succ, e1]
    rw [if_pos hlt]
    simp
  unfold L__law_box_1 sFor
  rw [ei]
  exact e2
theorem box_ok {ns : List Int} {rest μ : MH} (h : Rw ns rest μ) (many : Nat) (hm : 0 < many) (hm2 : many ≤ 100) : ∃ x : Bx, ∃ μ', F__law_box [.ref 0, .int many] μ = .ok x.enc μ' ∧ x.Ok many ∧ Rw ns rest μ' := by
  obtain ⟨cs, o3, μ2, e2, hl2, hc2, r2⟩ := box_loop h many hm hm2
  obtain ⟨x, μ3, e3, hx, r3⟩ := pick_ok r2 100 (by decide) (by decide)
  obtain ⟨v, μ4, e4, hv, r4⟩ := pick_ok r3 3 (by decide) (by decide)
  obtain ⟨kd, μ5, e5, hk, r5⟩ := pick_ok r4 2 (by decide) (by decide)
  obtain ⟨pr, μ6, e6, hp, r6⟩ := pick_ok r5 3 (by decide) (by decide)
  have hh : ∃ hf : Int, [D.int 50, .int 100, .int (1 + x)][v]? = some (.int hf) ∧ 1 ≤ hf ∧ hf ≤ 100 := by
    have hv' : v = 0 ∨ v = 1 ∨ v = 2 := by omega
    rcases hv' with rfl | rfl | rfl
    · exact ⟨50, rfl, by decide, by decide⟩
    · exact ⟨100, rfl, by decide, by decide⟩
    · exact ⟨1 + x, rfl, by omega, by omega⟩
  obtain ⟨hf, eh, h1, h2⟩ := hh
  refine ⟨⟨kd, 1 + pr, hf, cs ++ [100]⟩, μ6, ?_, ⟨by simp; omega, by simp; omega, ⟨h1, h2⟩, cs, rfl, hl2, hc2⟩, r6⟩
  have hz : cs.length + 1 ≤ sizeLine := le_size (by omega)
  have hz1 : 1 ≤ sizeLine := le_size (by decide)
  have hz3 : 3 ≤ sizeLine := le_size (by decide)
  simp [F__law_box, fnB, e2, e3, e4, eh, e5, e6, hz, hz1, hz3, h.trunc_ok r6, Bx.enc]
theorem Bx.bel {n : Nat} {x : Bx} : x.enc.bel n = true := by simp [Bx.enc, D.bel, bels]
@[simp] theorem bels_bxs {n : Nat} {l : List Bx} : bels n (l.map Bx.enc) = true := bels_all fun d h => by
  obtain ⟨x, _, rfl⟩ := List.mem_map.mp h
  exact x.bel
theorem drawn_loop {ns : List Int} {rest μ : MH} (h : Rw ns rest μ) (most many : Nat) (hm : 0 < many) (hm2 : many ≤ 100) (hk : 0 < most) (hk2 : most ≤ 100) : ∃ (bs : List Bx) (o4 : Option D) (μ' : MH),
    L__law_drawn_1 [some (.ref 0), some (.int most), some (.int many), some (.tup []), none] μ = .nx [some (.ref 0), some (.int most), some (.int many), some (.tup (bs.map Bx.enc)), o4] μ' ∧ (1 ≤ bs.length ∧ bs.length ≤ most) ∧ (∀ x ∈ bs, x.Ok many) ∧ Rw ns rest μ' := by
  obtain ⟨n, μ1, e1, hn, r1⟩ := pick_ok h most (by omega) (by omega)
  have loop : ∀ (l : List D) (bs : List Bx) (o4 : Option D) (μ : MH), Rw ns rest μ → bs.length + l.length ≤ 500 → (∀ x ∈ bs, x.Ok many) →
      ∃ (bs' : List Bx) (o4' : Option D) (μ' : MH), sForL (fun _ => true) (gNm 4) (sSeq (sAsg (eB addD (eVar 3) (eTup (aCons (eCall F__law_box (aCons (eVar 0) (aCons (eVar 2) (aNil)))) (aNil)))) (gNm 3)) (sNil)) l
        [some (.ref 0), some (.int most), some (.int many), some (.tup (bs.map Bx.enc)), o4] μ = .nx [some (.ref 0), some (.int most), some (.int many), some (.tup (bs'.map Bx.enc)), o4'] μ' ∧ bs'.length = bs.length + l.length ∧ (∀ x ∈ bs', x.Ok many) ∧ Rw ns rest μ' := by
    intro l
    induction l with
    | nil => intro bs o3 μ r _ hc; exact ⟨bs, o3, μ, by simp [sForL], by simp, hc, r⟩
    | cons d l ih =>
      intro bs o3 μ r hl hc
      obtain ⟨x, μa, ea, ox, ra⟩ := box_ok r many hm hm2
      obtain ⟨bs', o3', μ', e, hl', hc', r'⟩ := ih (bs ++ [x]) (some d) μa ra (by simp at hl ⊢; omega) (fun y hy => by
        rcases List.mem_append.mp hy with hy | hy
        · exact hc y hy
        · simp at hy; subst hy; exact ox)
      refine ⟨bs', o3', μ', ?_, by simp at hl' ⊢; omega, hc', r'⟩
      have hz : bs.length + 1 ≤ sizeLine := le_size (by simp at hl; omega)
      have hz1 : 1 ≤ sizeLine := le_size (by decide)
      simp only [List.map_append, List.map_cons, List.map_nil] at e
      simp [sForL, ea, hz, hz1, e]
  obtain ⟨bs, o3, μ2, e2, hl2, hc2, r2⟩ := loop (rngD 0 (1 + n)) [] none μ1 r1 (by simp; omega) (by simp)
  refine ⟨bs, o3, μ2, ?_, by rw [hl2]; simp; omega, hc2, r2⟩
  have hlt : rngOk (1 + n) = true := rngOk_iff.mpr (by omega)
  have ei : iRn1 (aCons (eB addD (eC (.int 1)) (eCall F__law_pick (aCons (eVar 0) (aCons (eVar 1) (aNil))))) (aNil)) [some (.ref 0), some (.int most), some (.int many), some (.tup []), none] μ = .ok (fun _ => true, rngD 0 (1 + n)) μ1 := by
    simp only [iRn1, aCons, eCall, eVar, eB, eC, addD, aNil, R.bind, List.getElem?_cons_zero, List.getElem?_cons_succ, e1]
    rw [if_pos hlt, show (1 + (n : Int)).toNat = 1 + n by omega]
  unfold L__law_drawn_1 sFor
  rw [ei]
  exact e2
def kepts : List (List Int) := [[], [0], [1], [0, 1]]
theorem Rw.app {ns : List Int} {rest more μ : MH} (h : Rw ns rest μ) : Rw ns (rest ++ more) (μ ++ more) := by
  obtain ⟨i, b, s, rfl⟩ := h
  exact ⟨i, b, s, rfl⟩
theorem drawn_ok {ns : List Int} {rest μ : MH} (h : Rw ns rest μ) (most many : Nat) (hm : 0 < many) (hm2 : many ≤ 100) (hk : 0 < most) (hk2 : most ≤ 100) : ∃ (bs : List Bx) (kp : List Int) (μ' : MH),
    F__law_drawn [.ref 0, .int most, .int many] μ = .ok (.dic false [.str "boxes", .str "kept"] [.tup (bs.map Bx.enc), .tup (kp.map D.int)]) μ' ∧ (1 ≤ bs.length ∧ bs.length ≤ most) ∧ (∀ x ∈ bs, x.Ok many) ∧ kp ∈ kepts ∧ Rw ns rest μ' := by
  obtain ⟨bs, o4, μ1, e1, hl, ho, r1⟩ := drawn_loop h most many hm hm2 hk hk2
  obtain ⟨v, μ2, e2, hv, r2⟩ := pick_ok (r1.app (more := [some (.dic false [] [])])) 4 (by decide) (by decide)
  have hkp : ∃ kp : List Int, [D.tup [], .tup [.int 0], .tup [.int 1], .tup [.int 0, .int 1]][v]? = some (.tup (kp.map D.int)) ∧ kp ∈ kepts := by
    have hv' : v = 0 ∨ v = 1 ∨ v = 2 ∨ v = 3 := by omega
    rcases hv' with rfl | rfl | rfl | rfl
    · exact ⟨[], rfl, by decide⟩
    · exact ⟨[0], rfl, by decide⟩
    · exact ⟨[1], rfl, by decide⟩
    · exact ⟨[0, 1], rfl, by decide⟩
  obtain ⟨kp, ek, hkp⟩ := hkp
  obtain ⟨i0, b0, s0, rfl⟩ := h
  obtain ⟨i1, b1, s1, rfl⟩ := r1
  obtain ⟨i2, b2, s2, rfl⟩ := r2
  refine ⟨bs, kp, M ns i2 b2 s2 rest, ?_, hl, ho, hkp, i2, b2, s2, rfl⟩
  have hz1 : 1 ≤ sizeLine := le_size (by decide)
  have hz2 : 2 ≤ sizeLine := le_size (by decide)
  have ed : trunc (M ns i1 b1 s1 rest) (dspEnd (M ns i1 b1 s1 rest).length [("boxes" : Str), ("kept" : Str)] [.tup (bs.map Bx.enc), .tup (kp.map D.int)] (M ns i2 b2 s2 (rest ++ [some (.dic false [] [])]))) = .ok (.dic false [.str "boxes", .str "kept"] [.tup (bs.map Bx.enc), .tup (kp.map D.int)]) (M ns i2 b2 s2 rest) := by
    have e0 : (M ns i2 b2 s2 (rest ++ [some (.dic false [] [])]))[(M ns i1 b1 s1 rest).length]? = some (some (.dic false [] [])) := by simp [M]
    unfold dspEnd
    rw [e0]
    simp only []
    rw [if_pos ⟨rfl, by decide⟩]
    have e3 : (M ns i2 b2 s2 (rest ++ [some (.dic false [] [])])).set (M ns i1 b1 s1 rest).length none = some (.lst (row ns i2 b2 s2)) :: (rest ++ [none]) := by simp [M]
    rw [e3]
    exact trunc_one (by simp [D.bel, bels]) keep_row
  have e2' : F__law_pick [.ref 0, .int 4] (some (.lst (row ns i1 b1 s1)) :: (rest ++ [some (.dic false [] [])])) = .ok (.int v) (M ns i2 b2 s2 (rest ++ [some (.dic false [] [])])) := e2
  have ea : (aCons (eVar 3) (aCons (eB ixD (eLst (aCons (eTup (aNil)) (aCons (eTup (aCons (eC (.int 0)) (aNil))) (aCons (eTup (aCons (eC (.int 1)) (aNil))) (aCons (eTup (aCons (eC (.int 0)) (aCons (eC (.int 1)) (aNil)))) (aNil)))))) (eCall F__law_pick (aCons (eVar 0) (aCons (eC (.int 4)) (aNil))))) (aNil))) [some (.ref 0), some (.int most), some (.int many), some (.tup (bs.map Bx.enc)), o4] (M ns i1 b1 s1 rest ++ [some (.dic false [] [])]) = .ok [.tup (bs.map Bx.enc), .tup (kp.map D.int)] (M ns i2 b2 s2 (rest ++ [some (.dic false [] [])])) := by
    simp [hz1, hz2, e2', ek, sz4]
  have ee : eDsp [("boxes" : Str), ("kept" : Str)] (aCons (eVar 3) (aCons (eB ixD (eLst (aCons (eTup (aNil)) (aCons (eTup (aCons (eC (.int 0)) (aNil))) (aCons (eTup (aCons (eC (.int 1)) (aNil))) (aCons (eTup (aCons (eC (.int 0)) (aCons (eC (.int 1)) (aNil)))) (aNil)))))) (eCall F__law_pick (aCons (eVar 0) (aCons (eC (.int 4)) (aNil))))) (aNil))) [some (.ref 0), some (.int most), some (.int many), some (.tup (bs.map Bx.enc)), o4] (M ns i1 b1 s1 rest) = .ok (.dic false [.str "boxes", .str "kept"] [.tup (bs.map Bx.enc), .tup (kp.map D.int)]) (M ns i2 b2 s2 rest) := by
    unfold eDsp
    rw [ea]
    exact ed
  unfold F__law_drawn
  refine Eq.trans (fnB_run (by rfl)) ?_
  have es : ([D.ref 0, .int most, .int many].map some ++ List.replicate (5 - 3) none : Sl).set 3 (some (.tup [])) = [some (.ref 0), some (.int most), some (.int many), some (.tup []), none] := rfl
  simp only [sSeq, sAsg, eTup, aNil, R.bind, List.length_nil, Nat.zero_le, if_true, R.to, gNm, SR.seq, es, e1, sRet, ee, SR.fin]
  exact trunc_len rfl
end SZ
end
section
/-! PB: boxes, kept, books: what the program's own checks answer. -/
namespace SZ
open PySem PySem.Spec
def plainD : D → Bool
  | .non | .bl _ | .int _ | .str _ | .tup _ | .lst _ => true
  | _ => false
def isFromB (d : D) (lo hi : Int) : Bool := match d with
  | .int i => decide (lo ≤ i) && decide (i ≤ hi)
  | _ => false
theorem is_from_ok (d : D) (hd : plainD d = true) (lo hi : Int) (μ : MH) : F_is_from [d, .int lo, .int hi] μ = .ok (.bl (isFromB d lo hi)) μ := by
  cases d with
  | int i =>
    by_cases h : lo ≤ i <;> simp [F_is_from, fnB, tyN, isT, isFromB, h]
  | non => simp [F_is_from, fnB, tyN, isT, isFromB]
  | bl b => simp [F_is_from, fnB, tyN, isT, isFromB]
  | str x => simp [F_is_from, fnB, tyN, isT, isFromB]
  | tup l => simp [F_is_from, fnB, tyN, isT, isFromB]
  | lst l => simp [F_is_from, fnB, tyN, isT, isFromB]
  | _ => cases hd
theorem blsOf_map {α : Type} (f : α → Bool) : ∀ l : List α, blsOf (l.map fun x => D.bl (f x)) = some (l.map f)
  | [] => rfl
  | a :: r => by simp [blsOf, blsOf_map f r]
def plains (l : List D) : Prop := ∀ d ∈ l, plainD d = true
theorem plain_bel {n : Nat} : ∀ b : Bool, (D.bl b).bel n = true := fun _ => rfl
theorem cut_m1 {l : List D} : cutD l none (some (-1)) = l.dropLast := by
  unfold cutD HT.sIx
  simp only [List.drop_zero, Nat.sub_zero]
  rw [List.dropLast_eq_take]
  congr 1
  split <;> omega
theorem cut_to {l : List D} {n : Nat} : cutD l none (some (n : Int)) = l.take n := by
  unfold cutD HT.sIx
  simp only [List.drop_zero, Nat.sub_zero]
  rw [if_neg (by omega), Int.toNat_natCast, List.take_eq_take_iff]
  omega
theorem cut_from {l : List D} {n : Nat} : cutD l (some (n : Int)) none = l.drop n := by
  unfold cutD HT.sIx
  simp only []
  rw [if_neg (by omega), Int.toNat_natCast]
  rw [List.take_of_length_le (by simp)]
  by_cases h : n ≤ l.length
  · rw [Nat.min_eq_left h]
  · rw [Nat.min_eq_right (by omega), List.drop_of_length_le (by omega), List.drop_of_length_le (by omega)]
theorem chances_k (l : List D) (hl : l.length ≤ 900) (hp : plains l) (μ : MH) (o : Option D) : K_are_chances_1 [some (.tup l), o] μ = .ok (.lst ((l.dropLast).map fun d => .bl (isFromB d 0 99))) μ := by
  refine eLc_map (chk := fun μ => sameL μ (.tup l.dropLast) l.dropLast) (l := l.dropLast) _ ?_ (by simp; omega) (fun acc => by simp) (fun d hd acc => ⟨[some (.tup l), some d], ?_, ?_⟩) (fun d hd => rfl)
  · simp [iSq, cut_m1]
  · simp [wipeD]
  · have := is_from_ok d (hp d (List.dropLast_subset l hd)) 0 99 (μ ++ [some (.lst acc)])
    simp [C_SURE, this]
def chancesB : D → Bool
  | .tup l => decide (1 ≤ l.length) && decide (l.length ≤ 5) && (l.dropLast.all fun d => isFromB d 0 99) && match l.getLast? with
    | some x => isFromB x 100 100
    | none => false
  | _ => false
def okIn : D → Prop
  | .tup l => l.length ≤ 900 ∧ plains l
  | d => plainD d = true
theorem chances_ok (d : D) (h : okIn d) (μ : MH) : F_are_chances [d] μ = .ok (.bl (chancesB d)) μ := by
  cases d with
  | tup l =>
    obtain ⟨hl, hp⟩ := h
    have kk := chances_k l hl hp μ none
    by_cases h1 : 1 ≤ l.length
    · have h1i : (1 : Int) ≤ l.length := by omega
      by_cases h2 : l.length ≤ 5
      · have h2i : (l.length : Int) ≤ 5 := by omega
        cases hx : l.getLast? with
        | none => simp [List.getLast?_eq_none_iff] at hx; subst hx; simp at h1
        | some x =>
          have hm : x ∈ l := List.mem_of_getLast? hx
          have e := is_from_ok x (hp x hm) 100 100 μ
          simp only [chancesB, hx]
          obtain ⟨q, hq⟩ : ∃ q, q = l.dropLast := ⟨_, rfl⟩
          rw [← hq] at kk ⊢
          have hb := blsOf_map (fun d => isFromB d 0 99) q
          have hid : (q.map fun d => isFromB d 0 99).all id = q.all fun d => isFromB d 0 99 := by simp [List.all_map]
          cases hall : q.all fun d => isFromB d 0 99 with
          | true => simp [-List.all_map, F_are_chances, fnB, tyN, isT, h1, h2, h1i, h2i, kk, hb, hid, hx, e, C_SURE, C_MOST_CHANCES, hall]
          | false => simp [-List.all_map, F_are_chances, fnB, tyN, isT, h1, h2, h1i, h2i, kk, hb, hid, hx, e, C_SURE, C_MOST_CHANCES, hall]
      · have h2i : ¬ (l.length : Int) ≤ 5 := by omega
        simp [F_are_chances, fnB, tyN, isT, chancesB, h1, h2, h1i, h2i, C_MOST_CHANCES]
    · have h1i : ¬ (1 : Int) ≤ l.length := by omega
      simp [F_are_chances, fnB, tyN, isT, chancesB, h1, h1i, C_MOST_CHANCES]
  | non => simp [F_are_chances, fnB, tyN, isT, chancesB]
  | bl b => simp [F_are_chances, fnB, tyN, isT, chancesB]
  | int b => simp [F_are_chances, fnB, tyN, isT, chancesB]
  | str b => simp [F_are_chances, fnB, tyN, isT, chancesB]
  | lst b => simp [F_are_chances, fnB, tyN, isT, chancesB]
  | _ => cases h
theorem okIn.plain {d : D} (h : okIn d) : plainD d = true := by
  cases d <;> first | rfl | exact h
def okBox : D → Prop
  | .tup l => l.length ≤ 100 ∧ ∀ d ∈ l, okIn d
  | d => plainD d = true
def isBoxB : D → Bool
  | .tup [a, b, c, e] => isFromB a 0 1 && isFromB b 1 3 && isFromB c 1 100 && chancesB e
  | _ => false
theorem is_box_ok (d : D) (h : okBox d) (μ : MH) : F_is_box [d] μ = .ok (.bl (isBoxB d)) μ := by
  cases d with
  | tup l =>
    obtain ⟨hl, hp⟩ := h
    by_cases h4 : l.length = 4
    · match l, h4, hp with
      | [a, b, c, e], _, hp =>
        have ea := is_from_ok a (hp a (by simp)).plain 0 1 μ
        have eb := is_from_ok b (hp b (by simp)).plain 1 3 μ
        have ec := is_from_ok c (hp c (by simp)).plain 1 100 μ
        have ee := chances_ok e (hp e (by simp)) μ
        cases ha : isFromB a 0 1 <;> cases hb : isFromB b 1 3 <;> cases hc : isFromB c 1 100 <;> simp [F_is_box, fnB, tyN, isT, isBoxB, ea, eb, ec, ee, ha, hb, hc, C_SURE]
    · have h4i : ¬ (l.length : Int) = 4 := by omega
      have hb : isBoxB (.tup l) = false := by
        match l, h4 with
        | [], _ | [_], _ | [_, _], _ | [_, _, _], _ => rfl
        | [_, _, _, _], h => exact absurd rfl h
        | _ :: _ :: _ :: _ :: _ :: _, _ => rfl
      simp [F_is_box, fnB, tyN, isT, hb, h4, h4i]
  | non => simp [F_is_box, fnB, tyN, isT, isBoxB]
  | bl b => simp [F_is_box, fnB, tyN, isT, isBoxB]
  | int b => simp [F_is_box, fnB, tyN, isT, isBoxB]
  | str b => simp [F_is_box, fnB, tyN, isT, isBoxB]
  | lst b => simp [F_is_box, fnB, tyN, isT, isBoxB]
  | _ => cases h
def isIntB : D → Bool
  | .int _ => true
  | _ => false
theorem from_i {i lo hi : Int} : isFromB (.int i) lo hi = (decide (lo ≤ i) && decide (i ≤ hi)) := rfl
theorem from_int {d : D} {lo hi : Int} (h : isFromB d lo hi = true) : isIntB d = true := by
  cases d <;> first | rfl | cases h
theorem ints_of : ∀ {l : List D}, l.all isIntB = true → ∃ ns : List Int, l = ns.map D.int
  | [], _ => ⟨[], rfl⟩
  | d :: l, h => by
    simp only [List.all_cons, Bool.and_eq_true] at h
    obtain ⟨ns, rfl⟩ := ints_of h.2
    cases d with
    | int i => exact ⟨i :: ns, rfl⟩
    | _ => cases h.1
theorem chances_ints {q : List D} (h : chancesB (.tup q) = true) : q.all isIntB = true := by
  simp only [chancesB, Bool.and_eq_true] at h
  obtain ⟨⟨_, h1⟩, h2⟩ := h
  cases hx : q.getLast? with
  | none => rw [hx] at h2; cases h2
  | some x =>
    rw [hx] at h2
    obtain ⟨ys, rfl⟩ := List.getLast?_eq_some_iff.mp hx
    rw [List.all_append, Bool.and_eq_true]
    rw [List.dropLast_concat] at h1
    refine ⟨List.all_eq_true.mpr fun d hd => from_int (List.all_eq_true.mp h1 d hd), ?_⟩
    simp [from_int h2]
theorem kept_k (l : List D) (hl : l.length ≤ 900) (hp : plains l) (μ : MH) (o : Option D) : K_are_kept_1 [some (.tup l), o] μ = .ok (.lst (l.map fun d => .bl (isFromB d 0 1))) μ := by
  refine eLc_map (chk := fun μ => sameL μ (.tup l) l) (l := l) _ ?_ (by omega) (fun acc => by simp) (fun d hd acc => ⟨[some (.tup l), some d], ?_, ?_⟩) (fun d hd => rfl)
  · simp [iSq]
  · simp [wipeD]
  · have := is_from_ok d (hp d hd) 0 1 (μ ++ [some (.lst acc)])
    simp [this]
def oddKept : List D := [.tup [.int 1, .int 0], .tup [.int 0, .int 0], .tup [.int 2], .tup [.bl true], .lst [.int 0], .non, .int 0, .str "0", .tup [.int 0, .int 1, .int 2], .tup [.str "0"], .tup [.bl false], .tup [.int (-1)]]
theorem kept_good (kp : List Int) (h : kp ∈ kepts) (μ : MH) : F_are_kept [.tup (kp.map D.int)] μ = .ok (.bl true) μ := by
  have k := kept_k (kp.map D.int) (by simp only [kepts, List.mem_cons, List.not_mem_nil, or_false] at h; rcases h with rfl | rfl | rfl | rfl <;> decide) (fun d hd => by obtain ⟨i, _, rfl⟩ := List.mem_map.mp hd; rfl) μ none
  simp only [kepts, List.mem_cons, List.not_mem_nil, or_false] at h
  rcases h with rfl | rfl | rfl | rfl <;> simp at k <;> simp [F_are_kept, fnB, tyN, isT, k, blsOf, from_i, intsOf, sdI, insD, pys]
theorem kept_no (l : List D) (hl : l.length ≤ 900) (hp : plains l) (h : (l.all fun d => isFromB d 0 1) = false) (μ : MH) : F_are_kept [.tup l] μ = .ok (.bl false) μ := by
  have k := kept_k l hl hp μ none
  have hb := blsOf_map (fun d => isFromB d 0 1) l
  have hid : (l.map fun d => isFromB d 0 1).all id = l.all fun d => isFromB d 0 1 := by simp [List.all_map, Function.comp_def]
  simp [-List.all_map, F_are_kept, fnB, tyN, isT, k, hb, hid, h]
theorem plains_of {l : List D} (h : l.all plainD = true) : plains l := fun d hd => List.all_eq_true.mp h d hd
theorem kept_odd (v : D) (h : v ∈ oddKept) (μ : MH) : F_are_kept [v] μ = .ok (.bl false) μ := by
  simp only [oddKept, List.mem_cons, List.not_mem_nil, or_false] at h
  rcases h with rfl | rfl | rfl | rfl | rfl | rfl | rfl | rfl | rfl | rfl | rfl | rfl
  · have k := kept_k [.int 1, .int 0] (by decide) (plains_of rfl) μ none
    simp at k
    simp [F_are_kept, fnB, tyN, isT, k, blsOf, from_i, intsOf, sdI, insD, pys]
  · have k := kept_k [.int 0, .int 0] (by decide) (plains_of rfl) μ none
    simp at k
    simp [F_are_kept, fnB, tyN, isT, k, blsOf, from_i, intsOf, sdI, insD, pys]
  all_goals first
    | exact kept_no _ (by decide) (plains_of rfl) rfl μ
    | simp [F_are_kept, fnB, tyN, isT]
/-- the first box that is none -/
def firstBad : List D → Nat → Option Nat
  | [], _ => none
  | d :: l, i => if isBoxB d = true then firstBad l (i + 1) else some i
theorem init_loop {μ : MH} {boxes : List D} {self kept : D} : ∀ (l : List D) (i : Nat) (o3 o4 : Option D), (∀ d ∈ l, okBox d) →
    ∃ o3' o4', sForL (fun μ => sameL μ (.tup boxes) boxes) (gTp 2 (gsCons (gNm 3) (gsCons (gNm 4) (gsNil)))) (sSeq (sIf (tNotD (tVal (eCall F_is_box (aCons (eVar 4) (aNil))))) (sSeq (sRz1 13 1 (aCons (eVar 3) (aNil))) (sNil)) (sNil)) (sNil)) (enD i l) [some self, some (.tup boxes), some kept, o3, o4] μ =
      match firstBad l i with
      | none => .nx [some self, some (.tup boxes), some kept, o3', o4'] μ
      | some k => .ex 13 [.int k] [some self, some (.tup boxes), some kept, o3', o4'] μ
  | [], i, o3, o4, _ => ⟨o3, o4, by simp [enD, sForL, firstBad]⟩
  | d :: l, i, o3, o4, h => by
    have e := is_box_ok d (h d (by simp)) μ
    cases hb : isBoxB d with
    | true =>
      obtain ⟨o3', o4', q⟩ := init_loop l (i + 1) (some (.int i)) (some d) fun x hx => h x (List.mem_cons_of_mem _ hx)
      refine ⟨o3', o4', ?_⟩
      simp only [firstBad, hb, if_true]
      rw [← q]
      simp [enD, sForL, e, hb]
    | false =>
      refine ⟨some (.int i), some d, ?_⟩
      simp [enD, sForL, e, hb, firstBad]
theorem init_ok {μ : MH} {l : List D} {kept : D} {kb : Bool} (h1 : 1 ≤ l.length) (h3 : l.length ≤ 3) (hl : ∀ d ∈ l, okBox d) (hk : ∀ μ, F_are_kept [kept] μ = .ok (.bl kb) μ):
    mkD 0 F_Book_init [] [.tup l, kept] μ = match firstBad l 0 with
      | some k => .ex 13 [.int k] (μ ++ [some (.ins 0 [])])
      | none => if kb = true then .ok (.ref μ.length) (μ ++ [some (.ins 0 [.tup l, kept])]) else .ex 7 [] (μ ++ [some (.ins 0 [])]) := by
  have h1i : (1 : Int) ≤ l.length := by omega
  have h3i : (l.length : Int) ≤ 3 := by omega
  obtain ⟨o3, o4, e⟩ := init_loop (μ := μ ++ [some (.ins 0 [])]) (boxes := l) (self := .ref μ.length) (kept := kept) l 0 none none hl
  have el : L_Book_init_1 [some (.ref μ.length), some (.tup l), some kept, none, none] (μ ++ [some (.ins 0 [])]) = match firstBad l 0 with
      | none => .nx [some (.ref μ.length), some (.tup l), some kept, o3, o4] (μ ++ [some (.ins 0 [])])
      | some k => .ex 13 [.int k] [some (.ref μ.length), some (.tup l), some kept, o3, o4] (μ ++ [some (.ins 0 [])]) := by
    rw [← e]
    rfl
  have hk1 := hk (μ ++ [some (.ins 0 [])])
  cases hf : firstBad l 0 with
  | some k =>
    rw [hf] at el
    simp [F_Book_init, fnB, tyN, isT, h1i, h3i, el, C_MOST_BOXES]
  | none =>
    rw [hf] at el
    cases kb with
    | false => simp [F_Book_init, fnB, tyN, isT, h1i, h3i, el, C_MOST_BOXES, hk1]
    | true =>
      have hne : ¬ (("told" : Str) = "left") := by decide +kernel
      simp [F_Book_init, fnB, tyN, isT, h1i, h3i, el, C_MOST_BOXES, hk1, ct, fix, hne]
      rw [trunc_len (by simp)]
end SZ
end
section
/-! PE: equality of data by their Python reading. -/
namespace SZ
open PySem PySem.Spec PySem.SeqAt PySem.W
theorem eqv_self {d : D} {p : PyData} (h : py d = some p) : PyData.eqv p p = true := eqv_refl_plain p (py_plain d p h)
theorem eqvAll_self {l : List D} {ps : List PyData} (h : pys l = some ps) : PyData.eqvAll ps ps = true := eqvAll_refl_plain ps (pys_plain l ps h)
/-- == of a datum with itself -/
theorem eqD_self {d : D} {p : PyData} {neg : Bool} {μ : MH} (h : py d = some p) (hd : p.depth ≤ 64) : eqD neg d d μ = .ok (.bl (!neg)) μ := by
  have e : pyM μ d = some p := by
    cases d with
    | ref n => cases h
    | _ => exact h
  simp only [eqD, e, Nat.min_self, if_pos hd, eqv_self h]
  cases neg <;> simp
theorem pyM_of {d : D} {p : PyData} {μ : MH} (h : py d = some p) : pyM μ d = some p := by
  cases d with
  | ref n => cases h
  | _ => exact h
theorem eqD_py {x y : D} {p q : PyData} {neg : Bool} {μ : MH} (hx : pyM μ x = some p) (hy : pyM μ y = some q) (hd : min p.depth q.depth ≤ 64) : eqD neg x y μ = .ok (.bl (neg != PyData.eqv p q)) μ := by
  simp only [eqD, hx, hy, if_pos hd]
  cases neg <;> simp
mutual
/-- alike data are == just when they are the same -/
theorem eqv_alike : ∀ p q : PyData, alike p q = true → PyData.eqv p q = true → p = q
  | .none, q, h, e => by cases q <;> simp_all [alike]
  | .bool _, q, h, e => by cases q <;> simp_all [alike, PyData.eqv]
  | .int _, q, h, e => by cases q <;> simp_all [alike, PyData.eqv]
  | .str _, q, h, e => by cases q <;> simp_all [alike, PyData.eqv]
  | .list xs, q, h, e => by
    cases q <;> simp only [alike, Bool.false_eq_true] at h
    rw [eqvAll_alike xs _ h (by simpa [PyData.eqv] using e)]
  | .tuple xs, q, h, e => by
    cases q <;> simp only [alike, Bool.false_eq_true] at h
    rw [eqvAll_alike xs _ h (by simpa [PyData.eqv] using e)]
  | .dict _, q, h, e => by cases q <;> simp [alike] at h
theorem eqvAll_alike : ∀ ps qs : List PyData, alikeAll ps qs = true → PyData.eqvAll ps qs = true → ps = qs
  | [], qs, h, e => by cases qs <;> simp_all [PyData.eqvAll]
  | p :: ps, qs, h, e => by
    cases qs with
    | nil => simp [PyData.eqvAll] at e
    | cons q qs =>
      simp only [alikeAll, PyData.eqvAll, Bool.and_eq_true] at h e
      rw [eqv_alike p q h.1 e.1, eqvAll_alike ps qs h.2 e.2]
end
mutual
theorem py_bel (n : Nat) : ∀ (d : D) (p : PyData), py d = some p → d.bel n = true
  | .non, _, h => rfl
  | .bl _, _, h => rfl
  | .int _, _, h => rfl
  | .str _, _, h => rfl
  | .tup l, _, h => by
    simp only [py, Option.map_eq_some_iff] at h
    obtain ⟨ps, h1, rfl⟩ := h
    exact pys_bel n l ps h1
  | .lst l, _, h => by
    simp only [py, Option.map_eq_some_iff] at h
    obtain ⟨ps, h1, rfl⟩ := h
    exact pys_bel n l ps h1
  | .dic _ _ _, _, h => by cases h
  | .obj _ _, _, h => by cases h
  | .fn _, _, h => by cases h
  | .ref _, _, h => by cases h
  | .exn _ _, _, h => by cases h
  | .clo _ _, _, h => by cases h
theorem pys_bel (n : Nat) : ∀ (l : List D) (ps : List PyData), pys l = some ps → bels n l = true
  | [], _, h => rfl
  | d :: l, ps, h => by
    cases e1 : py d with
    | none => simp [pys, e1] at h
    | some p =>
      cases e2 : pys l with
      | none => simp [pys, e1, e2] at h
      | some qs => simp [bels, py_bel n d p e1, pys_bel n l qs e2]
end
mutual
theorem py_inj : ∀ (a b : D) (p : PyData), py a = some p → py b = some p → a = b
  | .non, b, p, h, e => by cases h; cases b <;> simp_all [py]
  | .bl _, b, p, h, e => by cases h; cases b <;> simp_all [py]
  | .int _, b, p, h, e => by cases h; cases b <;> simp_all [py]
  | .str _, b, p, h, e => by cases h; cases b <;> simp_all [py]
  | .tup l, b, p, h, e => by
    simp only [py, Option.map_eq_some_iff] at h
    obtain ⟨ps, h1, rfl⟩ := h
    cases b <;> simp only [py, Option.map_eq_some_iff, Option.some.injEq, reduceCtorEq, and_false, exists_false, PyData.tuple.injEq] at e
    obtain ⟨qs, h2, rfl⟩ := e
    rw [pys_inj l _ qs h1 h2]
  | .lst l, b, p, h, e => by
    simp only [py, Option.map_eq_some_iff] at h
    obtain ⟨ps, h1, rfl⟩ := h
    cases b <;> simp only [py, Option.map_eq_some_iff, Option.some.injEq, reduceCtorEq, and_false, exists_false, PyData.list.injEq] at e
    obtain ⟨qs, h2, rfl⟩ := e
    rw [pys_inj l _ qs h1 h2]
  | .dic _ _ _, _, _, h, _ => by cases h
  | .obj _ _, _, _, h, _ => by cases h
  | .fn _, _, _, h, _ => by cases h
  | .ref _, _, _, h, _ => by cases h
  | .exn _ _, _, _, h, _ => by cases h
  | .clo _ _, _, _, h, _ => by cases h
theorem pys_inj : ∀ (a b : List D) (p : List PyData), pys a = some p → pys b = some p → a = b
  | [], b, p, h, e => by
    cases h
    cases b with
    | nil => rfl
    | cons d l =>
      simp only [pys] at e
      split at e <;> simp at e
  | d :: l, b, p, h, e => by
    cases e1 : py d with
    | none => simp [pys, e1] at h
    | some x =>
      cases e2 : pys l with
      | none => simp [pys, e1, e2] at h
      | some xs =>
        simp [pys, e1, e2] at h
        subst h
        cases b with
        | nil => simp [pys] at e
        | cons d' l' =>
          simp only [pys] at e
          split at e
          · rename_i f1 f2
            cases e
            rw [py_inj d d' _ e1 f1, pys_inj l l' _ e2 f2]
          · cases e
end
end SZ
end
section
/-! PG: books: made of good boxes, compared. -/
namespace SZ
open PySem PySem.Spec
theorem first_none : ∀ {l : List D} {i : Nat}, firstBad l i = none → ∀ d ∈ l, isBoxB d = true
  | [], _, _, d, hd => by cases hd
  | a :: l, i, h, d, hd => by
    simp only [firstBad] at h
    by_cases hb : isBoxB a = true
    · rw [if_pos hb] at h
      rcases List.mem_cons.mp hd with rfl | hd
      · exact hb
      · exact first_none h d hd
    · rw [if_neg hb] at h; cases h
theorem first_of : ∀ {l : List D} {i : Nat}, (∀ d ∈ l, isBoxB d = true) → firstBad l i = none
  | [], _, _ => rfl
  | a :: l, i, h => by
    simp only [firstBad]
    rw [if_pos (h a (by simp))]
    exact first_of fun d hd => h d (List.mem_cons_of_mem _ hd)
theorem depth_ints : ∀ ns : List Int, PyData.depthAll (ns.map PyData.int) = 0
  | [] => rfl
  | n :: ns => by simp [PyData.depthAll, PyData.depth, depth_ints ns]
theorem from_i' {d : D} {lo hi : Int} (h : isFromB d lo hi = true) : ∃ i : Int, d = .int i ∧ lo ≤ i ∧ i ≤ hi := by
  cases d with
  | int i => exact ⟨i, rfl, by simpa [isFromB] using h⟩
  | _ => cases h
/-- a good box is whole numbers -/
theorem box_is {d : D} (h : isBoxB d = true) : ∃ x : Bx, d = x.enc ∧ x.Ok 5 := by
  match d, h with
  | .tup [a, b, c, .tup q], h =>
    simp only [isBoxB, Bool.and_eq_true] at h
    obtain ⟨⟨⟨h1, h2⟩, h3⟩, h4⟩ := h
    obtain ⟨x, rfl, x1, x2⟩ := from_i' h1
    obtain ⟨y, rfl, y1, y2⟩ := from_i' h2
    obtain ⟨z, rfl, z1, z2⟩ := from_i' h3
    obtain ⟨ns, rfl⟩ := ints_of (chances_ints h4)
    have hne : ns ≠ [] := fun e => by subst e; simp [chancesB] at h4
    obtain ⟨m, w, rfl⟩ : ∃ m w, ns = m ++ [w] := ⟨ns.dropLast, ns.getLast hne, (List.dropLast_concat_getLast hne).symm⟩
    simp [chancesB, isFromB] at h4
    refine ⟨⟨x, y, z, m ++ [w]⟩, rfl, by simp; omega, by simp; omega, by simp; omega, m, ?_, by omega, fun c hc => ?_⟩
    · have : w = 100 := by omega
      rw [this]
    · have := h4.1.2 c hc
      omega
  | .tup [a, b, c, .non], h => simp [isBoxB, chancesB] at h
  | .tup [a, b, c, .bl _], h => simp [isBoxB, chancesB] at h
  | .tup [a, b, c, .int _], h => simp [isBoxB, chancesB] at h
  | .tup [a, b, c, .str _], h => simp [isBoxB, chancesB] at h
  | .tup [a, b, c, .lst _], h => simp [isBoxB, chancesB] at h
  | .tup [a, b, c, .dic _ _ _], h => simp [isBoxB, chancesB] at h
  | .tup [a, b, c, .obj _ _], h => simp [isBoxB, chancesB] at h
  | .tup [a, b, c, .fn _], h => simp [isBoxB, chancesB] at h
  | .tup [a, b, c, .ref _], h => simp [isBoxB, chancesB] at h
  | .tup [a, b, c, .exn _ _], h => simp [isBoxB, chancesB] at h
  | .tup [a, b, c, .clo _ _], h => simp [isBoxB, chancesB] at h
theorem boxes_are : ∀ {l : List D}, (∀ d ∈ l, isBoxB d = true) → ∃ bs : List Bx, l = bs.map Bx.enc ∧ ∀ x ∈ bs, x.Ok 5
  | [], _ => ⟨[], rfl, by simp⟩
  | d :: l, h => by
    obtain ⟨x, rfl, hx⟩ := box_is (h d (by simp))
    obtain ⟨bs, rfl, hb⟩ := boxes_are fun e he => h e (List.mem_cons_of_mem _ he)
    exact ⟨x :: bs, rfl, by simpa using ⟨hx, hb⟩⟩
/-- a good box, by its numbers -/
theorem Bx.Ok.isB {x : Bx} {m : Nat} (h : x.Ok m) (hm : m ≤ 5) : isBoxB x.enc = true := by
  obtain ⟨l, e, hl, hc⟩ := h.cs
  have hk := h.k; have hp := h.p; have hh := h.h
  simp only [isBoxB, Bx.enc, Bool.and_eq_true]
  refine ⟨⟨⟨by simp [isFromB]; omega, by simp [isFromB]; omega⟩, by simp [isFromB]; omega⟩, ?_⟩
  rw [e]
  simp [chancesB, isFromB]
  refine ⟨by omega, fun c hcm => ?_⟩
  have := hc c hcm
  omega
theorem Bx.okBox {x : Bx} {m : Nat} (h : x.Ok m) (hm : m ≤ 100) : okBox x.enc := by
  obtain ⟨l, e, hl, hc⟩ := h.cs
  refine ⟨by simp, fun d hd => ?_⟩
  simp only [List.mem_cons, List.not_mem_nil, or_false] at hd
  rcases hd with rfl | rfl | rfl | rfl
  · rfl
  · rfl
  · rfl
  · refine ⟨by rw [e]; simp; omega, fun d hd => ?_⟩
    obtain ⟨i, _, rfl⟩ := List.mem_map.mp hd
    rfl
def Bx.py (x : Bx) : PyData := .tuple [.int x.k, .int x.p, .int x.h, .tuple (x.cs.map .int)]
theorem Bx.py_enc (x : Bx) : SZ.py x.enc = some x.py := by simp [Bx.enc, Bx.py, SZ.py, pys, pys_ints]
theorem Bx.depth (x : Bx) : x.py.depth = 2 := by simp [Bx.py, PyData.depth, PyData.depthAll, depth_ints]
theorem pys_bxs : ∀ bs : List Bx, pys (bs.map Bx.enc) = some (bs.map Bx.py)
  | [] => rfl
  | x :: bs => by simp [pys, x.py_enc, pys_bxs bs]
theorem depth_bxs : ∀ bs : List Bx, PyData.depthAll (bs.map Bx.py) ≤ 2
  | [] => by simp [PyData.depthAll]
  | x :: bs => by
    have := depth_bxs bs
    simp only [List.map_cons, PyData.depthAll, x.depth]
    omega
theorem py_tupS {l : List D} {ps : List PyData} (h : pys l = some ps) : py (.tup l) = some (.tuple ps) := by simp [py, h]
theorem book_eq {l l' : List D} {k k' : D} {ps ps' : List PyData} {q q' : PyData} {μ : MH} (h1 : pys l = some ps) (h2 : pys l' = some ps') (h3 : py k = some q) (h4 : py k' = some q') (d1 : PyData.depthAll ps ≤ 20) (d2 : q.depth ≤ 20) :
    F_Book_eq [.obj 0 [.tup l, k], .obj 0 [.tup l', k']] μ = .ok (.bl (PyData.eqvAll ps ps' && PyData.eqv q q')) μ := by
  have ne : ¬ (("told" : Str) = "left") := by decide +kernel
  have e1 := eqD_py (neg := false) (μ := μ) (pyM_of (py_tupS h1)) (pyM_of (py_tupS h2)) (by simp [PyData.depth]; omega)
  have e2 := eqD_py (neg := false) (μ := μ) (pyM_of h3) (pyM_of h4) (by omega)
  cases hb : PyData.eqvAll ps ps' <;> simp [-eqD, F_Book_eq, fnB, tyN, ct, fix, ne, e1, e2, PyData.eqv, hb]
end SZ
end
section
/-! PF: loops by the place in what is walked. -/
namespace SZ
open PySem PySem.Spec
/-- a loop by the index; the way out may be any -/
theorem for_ix {chk : MH → Bool} {g : GF} {f : SF} {l : List D} {P : Nat → Sl → MH → Prop} {Good : SR → Prop}
    (fin : ∀ δ μ, P l.length δ μ → chk μ = true ∧ Good (.nx δ μ))
    (step : ∀ i d δ μ, l[i]? = some d → P i δ μ → chk μ = true ∧ ∃ δ1 μ1, g d δ μ = .ok δ1 μ1 ∧ ((∃ δ2 μ2, (f δ1 μ1 = .nx δ2 μ2 ∨ f δ1 μ1 = .ct δ2 μ2) ∧ P (i + 1) δ2 μ2) ∨ (∃ x μ2, f δ1 μ1 = .rt x μ2 ∧ Good (.rt x μ2)) ∨ (∃ δ2 μ2, f δ1 μ1 = .bk δ2 μ2 ∧ Good (.nx δ2 μ2)) ∨ ∃ c ds δ2 μ2, f δ1 μ1 = .ex c ds δ2 μ2 ∧ Good (.ex c ds δ2 μ2)))
    {δ : Sl} {μ : MH} (h : P 0 δ μ) : Good (sForL chk g f l δ μ) := by
  refine sForL_ind (P := fun r δ μ => ∃ i, i + r.length = l.length ∧ r = l.drop i ∧ P i δ μ) (Good := Good) ?_ ?_ l δ μ ⟨0, by simp, rfl, h⟩
  · rintro δ μ ⟨i, h1, h2, h3⟩
    have : i = l.length := by simpa using h1
    subst this
    exact fin δ μ h3
  · rintro d r δ μ ⟨i, h1, h2, h3⟩
    have hd : l[i]? = some d := by
      have := congrArg List.head? h2
      rw [List.head?_drop] at this
      exact this.symm
    have hr : r = l.drop (i + 1) := by
      have := congrArg List.tail h2
      rw [List.tail_drop] at this
      exact this
    obtain ⟨c, δ1, μ1, e, q⟩ := step i d δ μ hd h3
    refine ⟨c, δ1, μ1, e, ?_⟩
    rcases q with ⟨δ2, μ2, q1, q2⟩ | q | q | q
    · exact .inl ⟨δ2, μ2, q1, i + 1, by simp at h1 ⊢; omega, hr, q2⟩
    · exact .inr (.inl q)
    · exact .inr (.inr (.inl q))
    · exact .inr (.inr (.inr q))
/-- a loop that runs to its end -/
theorem for_nx {chk : MH → Bool} {g : GF} {f : SF} {l : List D} {P : Nat → Sl → MH → Prop} {n : Nat} (hn : l.length = n)
    (hc : ∀ i δ μ, P i δ μ → chk μ = true)
    (step : ∀ i d δ μ, i < n → l[i]? = some d → P i δ μ → ∃ δ1 μ1 δ2 μ2, g d δ μ = .ok δ1 μ1 ∧ f δ1 μ1 = .nx δ2 μ2 ∧ P (i + 1) δ2 μ2)
    {δ : Sl} {μ : MH} (h : P 0 δ μ) : ∃ δ' μ', sForL chk g f l δ μ = .nx δ' μ' ∧ P n δ' μ' := by
  subst hn
  refine for_ix (P := P) (Good := fun r => ∃ δ' μ', r = .nx δ' μ' ∧ P l.length δ' μ') (fun δ μ q => ⟨hc _ _ _ q, δ, μ, rfl, q⟩) (fun i d δ μ hd q => ⟨hc _ _ _ q, ?_⟩) h
  obtain ⟨δ1, μ1, δ2, μ2, e1, e2, q2⟩ := step i d δ μ (List.getElem?_eq_some_iff.mp hd).1 hd q
  exact ⟨δ1, μ1, e1, .inl ⟨δ2, μ2, .inl e2, q2⟩⟩
/-- for x in range(n) -/
theorem for_rng {g : GF} {f : SF} {P : Nat → Sl → MH → Prop} {n : Nat}
    (step : ∀ i δ μ, i < n → P i δ μ → ∃ δ1 μ1 δ2 μ2, g (.int i) δ μ = .ok δ1 μ1 ∧ f δ1 μ1 = .nx δ2 μ2 ∧ P (i + 1) δ2 μ2)
    {δ : Sl} {μ : MH} (h : P 0 δ μ) : ∃ δ' μ', sForL (fun _ => true) g f (rngD 0 n) δ μ = .nx δ' μ' ∧ P n δ' μ' :=
  for_nx (by simp) (fun _ _ _ _ => rfl) (fun i d δ μ hi hd q => by
    obtain ⟨_, h2⟩ := rngD_get hd
    have : d = .int i := by rw [h2]; simp
    subst this
    exact step i δ μ hi q) h
theorem rng_at {lo : Int} {n i : Nat} {d : D} (h : (rngD lo n)[i]? = some d) : i < n ∧ d = .int (lo + i) := rngD_get h
theorem rng0_at {n i : Nat} {d : D} (h : (rngD 0 n)[i]? = some d) : i < n ∧ d = .int i := by
  obtain ⟨h1, h2⟩ := rngD_get h
  exact ⟨h1, by rw [h2]; simp⟩
theorem en_len : ∀ (l : List D) (i : Nat), (enD i l).length = l.length
  | [], _ => rfl
  | d :: l, i => by simp [enD, en_len l]
theorem en_get : ∀ (l : List D) (k i : Nat) {d : D}, (enD k l)[i]? = some d → ∃ x, l[i]? = some x ∧ d = .tup [.int ((k + i : Nat) : Int), x]
  | [], _, _, _, h => by simp [enD] at h
  | x :: l, k, 0, _, h => by
    simp [enD] at h
    exact ⟨x, rfl, by simp [← h]⟩
  | x :: l, k, i + 1, _, h => by
    simp [enD] at h
    obtain ⟨y, h1, h2⟩ := en_get l (k + 1) i h
    refine ⟨y, by simpa using h1, ?_⟩
    rw [h2, show k + 1 + i = k + (i + 1) by omega]
theorem en_at {l : List D} {i : Nat} {d : D} (h : (enD 0 l)[i]? = some d) : ∃ x, l[i]? = some x ∧ d = .tup [.int (i : Int), x] := by
  obtain ⟨x, h1, h2⟩ := en_get l 0 i h
  exact ⟨x, h1, by rw [h2]; simp⟩
/-- a local list behind the heap -/
@[simp] theorem loc_get {μ : MH} {m : Option MO} : (μ ++ [m])[μ.length]? = some m := by simp
@[simp] theorem loc_set {μ : MH} {m m' : Option MO} : (μ ++ [m]).set μ.length m' = μ ++ [m'] := by simp
theorem trunc_loc {μ : MH} {m : Option MO} {d : D} (h : d.bel μ.length = true) : trunc μ (.ok d (μ ++ [m])) = .ok d μ := trunc_ok h
end SZ
end
section
/-! PK: changes of books: all of them, and a book with some. -/
namespace SZ
open PySem PySem.Spec
def bkD (bs : List Bx) (kp : List Int) : D := .obj 0 [.tup (bs.map Bx.enc), .tup (kp.map D.int)]
def dcD (bs : List Bx) (kp : List Int) : D := .dic false [.str "boxes", .str "kept"] [.tup (bs.map Bx.enc), .tup (kp.map D.int)]
@[simp] theorem ne_told : ¬ (("told" : Str) = "left") := by decide +kernel
@[simp] theorem ne_boxes : ¬ (("boxes" : Str) = "kept") := by decide +kernel
@[simp] theorem fix_told : fix "told" (ct 0) = some 0 := by simp [fix, ct]
@[simp] theorem fix_left : fix "left" (ct 0) = some 1 := by simp [fix, ct]
@[simp] theorem ix_boxes {bs : List Bx} {kp : List Int} {μ : MH} : ixD (dcD bs kp) (.str "boxes") μ = .ok (.tup (bs.map Bx.enc)) μ := by simp [dcD, dlook, nk]
@[simp] theorem ix_kept {bs : List Bx} {kp : List Int} {μ : MH} : ixD (dcD bs kp) (.str "kept") μ = .ok (.tup (kp.map D.int)) μ := by simp [dcD, dlook, nk]
@[simp] theorem fld_told {bs : List Bx} {kp : List Int} {μ : MH} : fldD ct "told" (bkD bs kp) μ = .ok (.tup (bs.map Bx.enc)) μ := by simp [bkD]
@[simp] theorem fld_left {bs : List Bx} {kp : List Int} {μ : MH} : fldD ct "left" (bkD bs kp) μ = .ok (.tup (kp.map D.int)) μ := by simp [bkD]
def halfD (i : Nat) : D := .tup [.str "half", .int i]
def sureD (i c : Nat) : D := .tup [.str "sure", .int i, .int c]
def chgOf (i : Nat) (x : Bx) : List D := (if x.h < 100 then [halfD i] else []) ++ (List.range (x.cs.length - 1)).map (sureD i)
def chgs : List Bx → Nat → List D
  | [], _ => []
  | x :: bs, i => chgOf i x ++ chgs bs (i + 1)
theorem chgs_app : ∀ (l m : List Bx) (i : Nat), chgs (l ++ m) i = chgs l i ++ chgs m (i + l.length)
  | [], m, i => by simp [chgs]
  | x :: l, m, i => by
    simp [chgs, chgs_app l m (i + 1)]
    rw [show i + 1 + l.length = i + (l.length + 1) by omega]
theorem chgs_take {l : List Bx} {i : Nat} {x : Bx} (h : l[i]? = some x) : chgs (l.take (i + 1)) 0 = chgs (l.take i) 0 ++ chgOf i x := by
  have hi := (List.getElem?_eq_some_iff.mp h).1
  have : l.take (i + 1) = l.take i ++ [x] := by
    rw [List.take_succ, h]
    rfl
  rw [this, chgs_app]
  simp [chgs]
  rw [show min i l.length = i by omega]
theorem chgOf_len {i : Nat} {x : Bx} (h : x.cs.length ≤ 5) : (chgOf i x).length ≤ 5 := by
  unfold chgOf
  split <;> simp <;> omega
theorem chgs_len : ∀ {bs : List Bx} {i : Nat}, (∀ x ∈ bs, x.cs.length ≤ 5) → (chgs bs i).length ≤ 5 * bs.length
  | [], _, _ => by simp [chgs]
  | x :: bs, i, h => by
    have h1 := chgOf_len (i := i) (h x (by simp))
    have h2 := chgs_len (bs := bs) (i := i + 1) fun y hy => h y (List.mem_cons_of_mem _ hy)
    simp [chgs]
    omega
theorem Bx.Ok.len {x : Bx} {m : Nat} (h : x.Ok m) : 1 ≤ x.cs.length ∧ x.cs.length ≤ m := by
  obtain ⟨l, e, hl, _⟩ := h.cs
  rw [e]
  simp
  omega
theorem map_at {l : List Bx} {i : Nat} {d : D} (h : (l.map Bx.enc)[i]? = some d) : ∃ x, l[i]? = some x ∧ d = x.enc := by
  rw [List.getElem?_map, Option.map_eq_some_iff] at h
  obtain ⟨x, h1, rfl⟩ := h
  exact ⟨x, h1, rfl⟩
theorem ac_k {book : D} {l kd pr hf : D} {cs : List Int} {o7 : Option D} {μ : MH} {i : Nat} (h : 1 ≤ cs.length) (h5 : cs.length ≤ 5) :
    K_all_changes_1 [some book, some l, some (.int i), some kd, some pr, some hf, some (.tup (cs.map D.int)), o7] μ = .ok (.lst ((List.range (cs.length - 1)).map (sureD i))) μ := by
  have hz : 3 ≤ sizeLine := le_size (by decide)
  have e := eLc_map (vs := [7]) (fi := iRn1 (aCons (eB subD (eCall lenD (aCons (eVar 6) (aNil))) (eC (.int 1))) (aNil))) (g := gNm 7) (fe := eTup (aCons (eC C_SURER) (aCons (eVar 2) (aCons (eVar 7) (aNil)))))
    (δ := [some book, some l, some (.int i), some kd, some pr, some hf, some (.tup (cs.map D.int)), o7]) (μ := μ) (chk := fun _ => true) (l := rngD 0 (cs.length - 1)) (fun d => .tup [.str "sure", .int i, d])
    (iRn1_ok (by simp; omega)) (by simp; omega) (fun _ => rfl) (fun d hd acc => ⟨[some book, some l, some (.int i), some kd, some pr, some hf, some (.tup (cs.map D.int)), some d], by simp [wipeD], by simp [hz]⟩) (fun d hd => by
      obtain ⟨j, hj⟩ := List.mem_iff_getElem?.mp hd
      obtain ⟨_, rfl⟩ := rng0_at hj
      simp [D.bel, bels])
  unfold K_all_changes_1
  rw [e]
  congr 2
  simp [rngD, sureD]
theorem all_changes_ok {bs : List Bx} {kp : List Int} {μ : MH} {r : List D} (hb : ∀ x ∈ bs, x.Ok 5) (hl : bs.length ≤ 3) (hr : srtL (chgs bs 0) = some r) (hbel : bels μ.length r = true) : F_all_changes [bkD bs kp] μ = .ok (.lst r) μ := by
  have hlen : ∀ x ∈ bs, x.cs.length ≤ 5 := fun x hx => (hb x hx).len.2
  obtain ⟨δ', μ', e, o2, o3, o4, o5, o6, o7, hδ, hμ⟩ : ∃ δ' μ', L_all_changes_1 [some (bkD bs kp), some (.ref μ.length), none, none, none, none, none, none] (μ ++ [some (.lst [])]) = .nx δ' μ' ∧ ∃ o2 o3 o4 o5 o6 o7, δ' = [some (bkD bs kp), some (.ref μ.length), o2, o3, o4, o5, o6, o7] ∧ μ' = μ ++ [some (.lst (chgs bs 0))] := by
    unfold L_all_changes_1 sFor
    simp only [iEn, aCons, eFld, eVar, aNil, R.bind, List.getElem?_cons_zero, fld_told, seqOf, R.to]
    have := for_nx (n := bs.length) (by simp [en_len]) (chk := fun μ => sameL μ (.tup (bs.map Bx.enc)) (bs.map Bx.enc)) (g := gTp 2 (gsCons (gNm 2) (gsCons (gTp 4 (gsCons (gNm 3) (gsCons (gNm 4) (gsCons (gNm 5) (gsCons (gNm 6) (gsNil)))))) (gsNil))))
      (f := sSeq (sExpr (eMt extD (eVar 1) (aCons (eIf (tVal (eB ltD (eVar 5) (eC C_SURE))) (eLst (aCons (eTup (aCons (eC C_HALF) (aCons (eVar 2) (aNil)))) (aNil))) (eLst (aNil))) (aNil)))) (sSeq (sExpr (eMt extD (eVar 1) (aCons (K_all_changes_1) (aNil)))) (sNil)))
      (l := enD 0 (bs.map Bx.enc)) (P := fun i δ μ' => ∃ o2 o3 o4 o5 o6 o7, δ = [some (bkD bs kp), some (.ref μ.length), o2, o3, o4, o5, o6, o7] ∧ μ' = μ ++ [some (.lst (chgs (bs.take i) 0))])
      (fun i δ μ' _ => by simp) ?_ (δ := [some (bkD bs kp), some (.ref μ.length), none, none, none, none, none, none]) (μ := μ ++ [some (.lst [])]) ⟨none, none, none, none, none, none, rfl, by simp [chgs]⟩
    · simpa using this
    · rintro i d δ μ' _ hd ⟨o2, o3, o4, o5, o6, o7, rfl, rfl⟩
      obtain ⟨y, hy, rfl⟩ := en_at hd
      obtain ⟨x, hx, rfl⟩ := map_at hy
      have hxb := hb x (List.mem_of_getElem? hx)
      have hi := (List.getElem?_eq_some_iff.mp hx).1
      have hz1 : 1 ≤ sizeLine := le_size (by decide)
      have hz2 : 2 ≤ sizeLine := le_size (by decide)
      have ht := chgs_len (bs := bs.take i) (i := 0) fun y hy => hlen y (List.mem_of_mem_take hy)
      have htl : (bs.take i).length ≤ 3 := by simp; omega
      have s1 : (chgs (bs.take i) 0).length + 1 ≤ sizeLine := le_size (by omega)
      have s0 : (chgs (bs.take i) 0).length ≤ sizeLine := le_size (by omega)
      have hcl := hxb.len.2
      have s2 : (chgs (bs.take i) 0).length + (x.cs.length - 1) ≤ sizeLine := le_size (by omega)
      have s3 : (chgs (bs.take i) 0).length + 1 + (x.cs.length - 1) ≤ sizeLine := le_size (by omega)
      have kk : ∀ μ2, K_all_changes_1 [some (bkD bs kp), some (.ref μ.length), some (.int (i : Int)), some (.int x.k), some (.int x.p), some (.int x.h), some (.tup (x.cs.map D.int)), o7] μ2 = .ok (.lst ((List.range (x.cs.length - 1)).map (sureD i))) μ2 := fun μ2 => ac_k hxb.len.1 hxb.len.2
      refine ⟨[some (bkD bs kp), some (.ref μ.length), some (.int (i : Int)), some (.int x.k), some (.int x.p), some (.int x.h), some (.tup (x.cs.map D.int)), o7], μ ++ [some (.lst (chgs (bs.take i) 0))], [some (bkD bs kp), some (.ref μ.length), some (.int (i : Int)), some (.int x.k), some (.int x.p), some (.int x.h), some (.tup (x.cs.map D.int)), o7], μ ++ [some (.lst (chgs (bs.take i) 0 ++ chgOf i x))], by simp [Bx.enc], ?_, _, _, _, _, _, _, rfl, by rw [chgs_take hx]⟩
      by_cases h1 : x.h < 100
      · simp [h1, hz1, hz2, s1, kk, s3, chgOf, halfD]
      · simp [h1, s0, kk, s2, chgOf]
  subst hδ hμ
  have hs : srtD [.ref μ.length] (μ ++ [some (.lst (chgs bs 0))]) = .ok (.lst r) (μ ++ [some (.lst (chgs bs 0))]) := by simp [srtD, hr]
  have ht : trunc μ (R.ok (.lst r) (μ ++ [some (.lst (chgs bs 0))])) = .ok (.lst r) μ := trunc_ok hbel
  simp [F_all_changes, fnB, e, eSrt, hs, ht]
/-! ### books made -/
theorem boxes_ok {bs : List Bx} (hb : ∀ x ∈ bs, x.Ok 5) : firstBad (bs.map Bx.enc) 0 = none := first_of fun d hd => by
  obtain ⟨x, hx, rfl⟩ := List.mem_map.mp hd
  exact (hb x hx).isB (by decide)
theorem mk_book {bs : List Bx} {kp : List Int} {μ : MH} (hb : ∀ x ∈ bs, x.Ok 5) (h1 : 1 ≤ bs.length) (h3 : bs.length ≤ 3) (hk : kp ∈ kepts) :
    mkD 0 F_Book_init [] [.tup (bs.map Bx.enc), .tup (kp.map D.int)] μ = .ok (.ref μ.length) (μ ++ [some (.ins 0 [.tup (bs.map Bx.enc), .tup (kp.map D.int)])]) := by
  have := init_ok (μ := μ) (l := bs.map Bx.enc) (kept := .tup (kp.map D.int)) (kb := true) (by simpa using h1) (by simpa using h3) (fun d hd => by
    obtain ⟨x, hx, rfl⟩ := List.mem_map.mp hd
    exact Bx.okBox (hb x hx) (by decide)) (fun μ => kept_good kp hk μ)
  rw [boxes_ok hb] at this
  simpa using this
theorem bk_bel {bs : List Bx} {kp : List Int} {n : Nat} : D.bel n (bkD bs kp) = true := by simp [bkD, D.bel, bels]
theorem book_new {bs : List Bx} {kp : List Int} {μ : MH} (hb : ∀ x ∈ bs, x.Ok 5) (h1 : 1 ≤ bs.length) (h3 : bs.length ≤ 3) (hk : kp ∈ kepts) :
    trunc μ ((mkD 0 F_Book_init [] [.tup (bs.map Bx.enc), .tup (kp.map D.int)] μ).bind (frzI ct)) = .ok (bkD bs kp) μ := by
  rw [mk_book hb h1 h3 hk]
  simp only [R.bind, frzI, loc_get]
  rw [if_pos ⟨rfl, by simp⟩, loc_set]
  exact trunc_ok bk_bel
theorem eMkF_book {δ : Sl} {g : AF} {bs : List Bx} {kp : List Int} {μ μ' : MH} (hb : ∀ x ∈ bs, x.Ok 5) (h1 : 1 ≤ bs.length) (h3 : bs.length ≤ 3) (hk : kp ∈ kepts) (hg : g δ μ = .ok [.tup (bs.map Bx.enc), .tup (kp.map D.int)] μ') :
    eMkF ct 0 F_Book_init [] g δ μ = .ok (bkD bs kp) μ' := by
  have := book_new (μ := μ') hb h1 h3 hk
  unfold eMkF
  rw [hg]
  exact this
theorem made_ok {bs : List Bx} {kp : List Int} {μ : MH} (hb : ∀ x ∈ bs, x.Ok 5) (h1 : 1 ≤ bs.length) (h3 : bs.length ≤ 3) (hk : kp ∈ kepts) : F__law_made [dcD bs kp] μ = .ok (bkD bs kp) μ := by
  have e := eMkF_book (δ := [some (dcD bs kp)]) (g := aCons (eB ixD (eVar 0) (eC (.str "boxes"))) (aCons (eB ixD (eVar 0) (eC (.str "kept"))) (aNil))) (μ := μ) (μ' := μ) hb h1 h3 hk (by simp [-ixD])
  simp [-eMkF, F__law_made, fnB, e]
end SZ
end
section
/-! PQ: small words for steps: sequences, ifs, equality of scalars, draws within comprehensions. (QC, QK, QL, P17* hold older copies of some of these.) -/
namespace SZ.U
open PySem PySem.Spec PySem.W SZ
theorem seq_nx {f g : SF} {δ δ1 : Sl} {μ μ1 : MH} (h : f δ μ = .nx δ1 μ1) : sSeq f g δ μ = g δ1 μ1 := by simp [h]
theorem seq_ex {f g : SF} {δ δ1 : Sl} {μ μ1 : MH} {c : Nat} {ds : List D} (h : f δ μ = .ex c ds δ1 μ1) : sSeq f g δ μ = .ex c ds δ1 μ1 := by simp [h]
theorem seq_rt {f g : SF} {δ : Sl} {μ μ1 : MH} {x : D} (h : f δ μ = .rt x μ1) : sSeq f g δ μ = .rt x μ1 := by simp [h]
theorem tOr_true {t u : TF} {δ : Sl} {μ μ' : MH} (h : t δ μ = .ok true μ') : tOrD t u δ μ = .ok true μ' := by simp [h]
theorem tOr_false {t u : TF} {δ : Sl} {μ μ' : MH} {r : R Bool} (h : t δ μ = .ok false μ') (h2 : u δ μ' = r) : tOrD t u δ μ = r := by simp [h, h2]
theorem sIf_true {t : TF} {f g : SF} {δ : Sl} {μ μ' : MH} (h : t δ μ = .ok true μ') : sIf t f g δ μ = f δ μ' := by simp [h]
theorem sIf_false {t : TF} {f g : SF} {δ : Sl} {μ μ' : MH} (h : t δ μ = .ok false μ') : sIf t f g δ μ = g δ μ' := by simp [h]
theorem eIf_true {t : TF} {f g : EF} {δ : Sl} {μ μ' : MH} (h : t δ μ = .ok true μ') : eIf t f g δ μ = f δ μ' := by simp [h]
theorem eIf_false {t : TF} {f g : EF} {δ : Sl} {μ μ' : MH} (h : t δ μ = .ok false μ') : eIf t f g δ μ = g δ μ' := by simp [h]
theorem eB_ok {op : D → D → MH → R D} {fa fb : EF} {δ : Sl} {μ μ1 μ2 : MH} {x y : D} (h1 : fa δ μ = .ok x μ1) (h2 : fb δ μ1 = .ok y μ2) : eB op fa fb δ μ = op x y μ2 := by simp [h1, h2]
theorem int_eq {a b : Nat} {neg : Bool} {μ : MH} : eqD neg (.int (a : Nat)) (.int (b : Nat)) μ = .ok (.bl (neg != decide (a = b))) μ := by
  rw [eqD_py (p := .int a) (q := .int b) (pyM_of rfl) (pyM_of rfl) (by simp [PyData.depth])]
  have : PyData.eqv (.int a) (.int b) = decide (a = b) := by
    simp [PyData.eqv]
    by_cases h : a = b
    · simp [h]
    · simp [h]; omega
  rw [this]
theorem str_eq {neg : Bool} {a b : Str} {μ : MH} : eqD neg (.str a) (.str b) μ = .ok (.bl (neg != decide (a = b))) μ := by
  rw [eqD_py (p := .str a) (q := .str b) (pyM_of rfl) (pyM_of rfl) (by simp [PyData.depth])]
  have : PyData.eqv (.str a) (.str b) = decide (a = b) := by by_cases h : a = b <;> simp [PyData.eqv, h]
  rw [this]
end SZ.U
end
section
namespace SZ
/-- how far a fraction's numbers may go -/
structure Sm (q : Rat) : Prop where
  nn : 0 ≤ q
  dn : q.den < 2 ^ 4000
  nm : q.num.natAbs < 2 ^ 400000
/-- m at most, with 10^k below -/
def Bd (k m : Nat) (q : Rat) : Prop := ∃ n : Nat, q * (10 ^ k : Nat) = n ∧ n ≤ m * 10 ^ k
theorem p10 (k : Nat) : (0 : Rat) < ((10 ^ k : Nat) : Rat) := by
  have : 0 < 10 ^ k := Nat.pow_pos (by decide)
  exact_mod_cast this
theorem Bd.add {k m m' : Nat} {a b : Rat} (ha : Bd k m a) (hb : Bd k m' b) : Bd k (m + m') (a + b) := by
  obtain ⟨n, e, h⟩ := ha
  obtain ⟨n', e', h'⟩ := hb
  refine ⟨n + n', ?_, ?_⟩
  · rw [Rat.add_mul, e, e']; simp
  · rw [Nat.add_mul]; omega
theorem Bd.mul {k k' m m' : Nat} {a b : Rat} (ha : Bd k m a) (hb : Bd k' m' b) : Bd (k + k') (m * m') (a * b) := by
  obtain ⟨n, e, h⟩ := ha
  obtain ⟨n', e', h'⟩ := hb
  refine ⟨n * n', ?_, ?_⟩
  · rw [Nat.pow_add]
    have e1 : ((n * n' : Nat) : Rat) = n * n' := by simp
    have e2 : (((10 ^ k * 10 ^ k' : Nat)) : Rat) = (10 ^ k : Nat) * (10 ^ k' : Nat) := by simp
    rw [e1, e2, ← e, ← e']
    grind
  · have := Nat.mul_le_mul h h'
    rw [Nat.pow_add]
    calc n * n' ≤ _ := this
      _ = _ := by ac_rfl
theorem Bd.up {k k' m m' : Nat} {a : Rat} (ha : Bd k m a) (h1 : k ≤ k') (h2 : m ≤ m') : Bd k' m' a := by
  obtain ⟨n, e, h⟩ := ha
  obtain ⟨j, rfl⟩ := Nat.exists_eq_add_of_le h1
  refine ⟨n * 10 ^ j, ?_, ?_⟩
  · rw [Nat.pow_add]
    have e1 : ((n * 10 ^ j : Nat) : Rat) = n * (10 ^ j : Nat) := by simp
    have e2 : (((10 ^ k * 10 ^ j : Nat)) : Rat) = (10 ^ k : Nat) * (10 ^ j : Nat) := by simp
    rw [e1, e2, ← e]
    grind
  · rw [Nat.pow_add]
    calc n * 10 ^ j ≤ (m * 10 ^ k) * 10 ^ j := Nat.mul_le_mul_right _ h
      _ ≤ (m' * 10 ^ k) * 10 ^ j := Nat.mul_le_mul_right _ (Nat.mul_le_mul_right _ h2)
      _ = _ := by ac_rfl
theorem mkRat_nat (n d : Nat) : mkRat n d = (n : Rat) / (d : Rat) := by
  rw [Rat.mkRat_eq_div, Rat.intCast_natCast]
theorem Bd.eq {k m : Nat} {a : Rat} (ha : Bd k m a) : ∃ n : Nat, n ≤ m * 10 ^ k ∧ a = mkRat n (10 ^ k) := by
  obtain ⟨n, e, h⟩ := ha
  refine ⟨n, h, ?_⟩
  have h0 := p10 k
  rw [mkRat_nat, ← e]
  generalize ((10 ^ k : Nat) : Rat) = p at h0
  grind
theorem Bd.nn {k m : Nat} {a : Rat} (ha : Bd k m a) : 0 ≤ a := by
  obtain ⟨n, e, h⟩ := ha
  have h0 := p10 k
  have h1 : (0 : Rat) ≤ n := by exact_mod_cast Nat.zero_le n
  rw [← e] at h1
  have := Rat.mul_le_mul_of_nonneg_right h1 (Rat.le_of_lt (Rat.inv_pos.mpr h0))
  generalize ((10 ^ k : Nat) : Rat) = p at h0 this
  have e2 : a * p * p⁻¹ = a := by grind
  rw [e2] at this
  grind
theorem Bd.sm {k m : Nat} {a : Rat} (ha : Bd k m a) (hk : k ≤ 1200) (hm : m < 2 ^ 300000) : Sm a := by
  refine ⟨ha.nn, ?_, ?_⟩
  · obtain ⟨n, h, rfl⟩ := ha.eq
    rw [Rat.den_mkRat]
    have h0 : 10 ^ k ≠ 0 := Nat.ne_of_gt (Nat.pow_pos (by decide))
    rw [if_neg h0]
    refine Nat.lt_of_le_of_lt (Nat.div_le_self _ _) ?_
    refine Nat.lt_of_le_of_lt (Nat.pow_le_pow_right (by decide) hk) ?_
    decide +kernel
  · obtain ⟨n, h, rfl⟩ := ha.eq
    rw [Rat.num_mkRat]
    have h0 : 10 ^ k ≠ 0 := Nat.ne_of_gt (Nat.pow_pos (by decide))
    rw [if_neg h0]
    have : ((n : Int) / (((10 ^ k).gcd (n : Int).natAbs : Nat) : Int)).natAbs ≤ n := by
      rw [← Int.natCast_ediv, Int.natAbs_natCast]
      exact Nat.div_le_self _ _
    refine Nat.lt_of_le_of_lt this (Nat.lt_of_le_of_lt h ?_)
    have h10 : 10 ^ k ≤ 2 ^ 4000 := Nat.le_trans (Nat.pow_le_pow_right (by decide) hk) (by decide +kernel)
    calc m * 10 ^ k ≤ m * 2 ^ 4000 := Nat.mul_le_mul_left _ h10
      _ < 2 ^ 300000 * 2 ^ 4000 := Nat.mul_lt_mul_of_pos_right hm (by decide +kernel)
      _ = 2 ^ 304000 := by rw [← Nat.pow_add]
      _ ≤ 2 ^ 400000 := Nat.pow_le_pow_right (by decide) (by decide)
theorem Bd.small {k m : Nat} {a : Rat} (ha : Bd k m a) (hk : k ≤ 1200) (hm : m ≤ 1000000000000) : Sm a := ha.sm hk (Nat.lt_of_le_of_lt hm (Nat.lt_of_lt_of_le (show 1000000000000 < 2 ^ 64 by decide) (Nat.pow_le_pow_right (by decide) (by decide))))
theorem Bd.nat (m : Nat) : Bd 0 m m := ⟨m, by simp, by simp⟩
theorem Bd.zero {k m : Nat} : Bd k m 0 := ⟨0, by simp, by omega⟩
theorem Bd.pct {n k : Nat} (h : n ≤ 10 ^ k) : Bd k 1 (mkRat n (10 ^ k)) := by
  refine ⟨n, ?_, by omega⟩
  have h0 := p10 k
  rw [mkRat_nat]
  generalize ((10 ^ k : Nat) : Rat) = p at h0 ⊢
  grind
end SZ
end
section
namespace SZ
inductive W3 where | miss | other | wished
deriving DecidableEq
abbrev St := (Nat × Bool) × (Nat × Bool)
/-- a box: the chances without the last, sure one -/
structure Bn where
  k : Nat
  p : Nat
  h : Nat
  l : List Nat
structure Bn.Ok (b : Bn) : Prop where
  k : b.k < 2
  p : 1 ≤ b.p ∧ b.p ≤ 3
  h : 1 ≤ b.h ∧ b.h ≤ 100
  l : b.l.length ≤ 4
  c : ∀ c ∈ b.l, c < 100
def Bn.rare (b : Bn) (c : Nat) : Nat := (b.l[c]?).getD 100
def Bn.part (b : Bn) (o : Bool) : Nat := if o then 100 else b.h
def gk (s : St) (k : Nat) : Nat × Bool := if k = 0 then s.1 else s.2
def pk (s : St) (k : Nat) (t : Nat × Bool) : St := if k = 0 then (t, s.2) else (s.1, t)
def mv1 (b : Bn) (s : St) : List (W3 × Rat × St) := if b.rare (gk s b.k).1 < 100 then [(.miss, mkRat (100 - b.rare (gk s b.k).1 : Nat) 100, pk s b.k ((gk s b.k).1 + 1, (gk s b.k).2))] else []
def mv2 (b : Bn) (s : St) : List (W3 × Rat × St) := if 0 < b.rare (gk s b.k).1 ∧ b.part (gk s b.k).2 < 100 then [(.other, mkRat (b.rare (gk s b.k).1 * (100 - b.part (gk s b.k).2) : Nat) 10000, pk s b.k (0, true))] else []
def mv3 (b : Bn) (s : St) : List (W3 × Rat × St) := if 0 < b.rare (gk s b.k).1 then [(.wished, mkRat (b.rare (gk s b.k).1 * b.part (gk s b.k).2 : Nat) 10000, pk s b.k (0, false))] else []
/-- what can come from a box -/
def mvs (b : Bn) (s : St) : List (W3 × Rat × St) := mv1 b s ++ (mv2 b s ++ mv3 b s)
theorem Bn.rare_le {b : Bn} (h : b.Ok) (c : Nat) : b.rare c ≤ 100 := by
  unfold Bn.rare
  cases e : b.l[c]? with
  | none => simp
  | some x => have := h.c x (List.mem_of_getElem? e); simp; omega
theorem Bn.part_le {b : Bn} (h : b.Ok) (o : Bool) : 1 ≤ b.part o ∧ b.part o ≤ 100 := by
  unfold Bn.part
  have := h.h
  cases o <;> simp <;> omega
theorem Bn.rare_lt {b : Bn} (h : b.Ok) {c : Nat} (hc : b.rare c < 100) : c < b.l.length := by
  unfold Bn.rare at hc
  refine Nat.lt_of_not_le fun q => ?_
  rw [List.getElem?_eq_none q] at hc
  simp at hc
theorem mvs_ne {b : Bn} (s : St) : mvs b s ≠ [] := by
  unfold mvs
  by_cases h : b.rare (gk s b.k).1 < 100
  · simp [mv1, h]
  · have : 0 < b.rare (gk s b.k).1 := by omega
    simp [mv3, this]
theorem mvs_len {b : Bn} (s : St) : (mvs b s).length ≤ 3 := by
  unfold mvs mv1 mv2 mv3
  split <;> split <;> split <;> simp
/-- the words stand once each -/
theorem mvs_words {b : Bn} {s : St} : ((mvs b s).map (·.1)).Nodup := by
  unfold mvs mv1 mv2 mv3
  split <;> split <;> split <;> simp
/-- counts are at most 4 -/
def InB (s : St) : Prop := s.1.1 ≤ 4 ∧ s.2.1 ≤ 4
def fst0 : St := ((0, false), (0, false))
theorem mvs_in {b : Bn} (h : b.Ok) {s : St} (hs : InB s) {m : W3 × Rat × St} (hm : m ∈ mvs b s) : InB m.2.2 := by
  have key : ∀ t : Nat × Bool, t.1 ≤ 4 → InB (pk s b.k t) := fun t ht => by
    unfold pk InB
    split
    · exact ⟨ht, hs.2⟩
    · exact ⟨hs.1, ht⟩
  unfold mvs at hm
  rcases List.mem_append.mp hm with hm | hm
  · unfold mv1 at hm
    split at hm
    · rename_i q
      have := Bn.rare_lt h q
      have := h.l
      simp at hm
      subst hm
      exact key _ (by simp only; omega)
    · simp at hm
  · rcases List.mem_append.mp hm with hm | hm
    · unfold mv2 at hm
      split at hm
      · simp at hm; subst hm; exact key _ (by simp)
      · simp at hm
    · unfold mv3 at hm
      split at hm
      · simp at hm; subst hm; exact key _ (by simp)
      · simp at hm
/-! ### what comes from a standing -/
def isW (w : W3) : Bool := w == .wished
def nx1 (op : Bool) (b : Bn) (s : St) : List St := ((mvs b s).filter fun m => !(op && isW m.1)).map (·.2.2)
def nxt (bs : List Bn) (op : Bool) (s : St) : List St := bs.flatMap fun b => nx1 op b s
inductive Rch (bs : List Bn) (op : Bool) (a : St) : St → Prop
  | nil : Rch bs op a a
  | step {s t : St} : Rch bs op a s → t ∈ nxt bs op s → Rch bs op a t
def OkB (bs : List Bn) : Prop := (1 ≤ bs.length ∧ bs.length ≤ 3) ∧ ∀ b ∈ bs, b.Ok
theorem nx1_in {b : Bn} (h : b.Ok) {op : Bool} {s t : St} (hs : InB s) (ht : t ∈ nx1 op b s) : InB t := by
  obtain ⟨m, hm, rfl⟩ := List.mem_map.mp ht
  exact mvs_in h hs (List.mem_filter.mp hm).1
theorem nxt_in {bs : List Bn} (h : OkB bs) {op : Bool} {s t : St} (hs : InB s) (ht : t ∈ nxt bs op s) : InB t := by
  obtain ⟨b, hb, ht⟩ := List.mem_flatMap.mp ht
  exact nx1_in (h.2 b hb) hs ht
theorem Rch.inb {bs : List Bn} (h : OkB bs) {op : Bool} {a s : St} (ha : InB a) (r : Rch bs op a s) : InB s := by
  induction r with
  | nil => exact ha
  | step _ t ih => exact nxt_in h ih t
theorem Rch.trans {bs : List Bn} {op : Bool} {a b c : St} (r : Rch bs op a b) (q : Rch bs op b c) : Rch bs op a c := by
  induction q with
  | nil => exact r
  | step _ t ih => exact .step ih t
theorem nxt_sub {bs : List Bn} {s t : St} (h : t ∈ nxt bs true s) : t ∈ nxt bs false s := by
  obtain ⟨b, hb, ht⟩ := List.mem_flatMap.mp h
  obtain ⟨m, hm, rfl⟩ := List.mem_map.mp ht
  exact List.mem_flatMap.mpr ⟨b, hb, List.mem_map.mpr ⟨m, List.mem_filter.mpr ⟨(List.mem_filter.mp hm).1, by simp⟩, rfl⟩⟩
theorem Rch.sub {bs : List Bn} {a s : St} (r : Rch bs true a s) : Rch bs false a s := by
  induction r with
  | nil => exact .nil
  | step _ t ih => exact .step ih (nxt_sub t)
theorem mv_nxt {bs : List Bn} {b : Bn} (hb : b ∈ bs) {s : St} {m : W3 × Rat × St} (hm : m ∈ mvs b s) : m.2.2 ∈ nxt bs false s :=
  List.mem_flatMap.mpr ⟨b, hb, List.mem_map.mpr ⟨m, List.mem_filter.mpr ⟨hm, by simp⟩, rfl⟩⟩
theorem mv_open {bs : List Bn} {b : Bn} (hb : b ∈ bs) {s : St} {m : W3 × Rat × St} (hm : m ∈ mvs b s) (hw : isW m.1 = false) : m.2.2 ∈ nxt bs true s :=
  List.mem_flatMap.mpr ⟨b, hb, List.mem_map.mpr ⟨m, List.mem_filter.mpr ⟨hm, by simp [hw]⟩, rfl⟩⟩
theorem InB.pair {s : St} {k : Nat} (h : InB s) : (gk s k).1 ≤ 4 := by
  unfold gk
  split
  · exact h.1
  · exact h.2
/-! ### all standings, in order -/
def allSt : List St := (List.range 5).flatMap fun a => [false, true].flatMap fun o => (List.range 5).flatMap fun b => [false, true].map fun q => ((a, o), (b, q))
theorem mem_all {s : St} : s ∈ allSt ↔ InB s := by
  obtain ⟨⟨a, o⟩, ⟨b, q⟩⟩ := s
  unfold allSt InB
  simp
  cases o <;> cases q <;> simp <;> omega
theorem all_len : allSt.length = 100 := rfl
def ltP (x y : Nat × Bool) : Bool := decide (x.1 < y.1) || (x.1 == y.1 && (!x.2 && y.2))
def ltS (s t : St) : Bool := ltP s.1 t.1 || (s.1 == t.1 && ltP s.2 t.2)
theorem all_sorted : allSt.Pairwise fun s t => ltS s t = true := by decide +kernel
theorem all_nodup : allSt.Nodup := all_sorted.imp fun {s t} h e => by
  subst e
  obtain ⟨⟨a, o⟩, ⟨b, q⟩⟩ := s
  simp [ltS, ltP] at h
theorem bound {l : List St} (h : l.Nodup) (hi : ∀ s ∈ l, InB s) : l.length ≤ 100 := by
  rw [← all_len]
  exact h.length_le_of_subset fun s hs => mem_all.mpr (hi s hs)
open Classical in
/-- the standings of a set, ascending -/
noncomputable def stOf (P : St → Prop) : List St := allSt.filter fun s => decide (P s)
theorem mem_stOf {P : St → Prop} {s : St} : s ∈ stOf P ↔ InB s ∧ P s := by simp [stOf, mem_all]
theorem ltP_tot (x y : Nat × Bool) (h : ltP y x = false) : ltP x y = true ∨ x = y := by
  obtain ⟨a, o⟩ := x
  obtain ⟨b, q⟩ := y
  cases o <;> cases q <;> simp [ltP] at h ⊢ <;> omega
theorem ltS_tot (s t : St) (h : ltS t s = false) : ltS s t = true ∨ s = t := by
  obtain ⟨x, y⟩ := s
  obtain ⟨z, w⟩ := t
  simp only [ltS, Bool.or_eq_false_iff, Bool.and_eq_false_iff] at h ⊢
  rcases ltP_tot x z h.1 with q | rfl
  · left; simp [q]
  · rcases h.2 with h2 | h2
    · simp at h2
    · rcases ltP_tot y w h2 with q | rfl
      · left; simp [q]
      · right; rfl
theorem ltP_irr (x : Nat × Bool) : ltP x x = false := by
  obtain ⟨a, o⟩ := x
  simp [ltP]
theorem ltP_trans {x y z : Nat × Bool} (h : ltP x y = true) (h2 : ltP y z = true) : ltP x z = true := by
  obtain ⟨a, o⟩ := x
  obtain ⟨b, q⟩ := y
  obtain ⟨c, r⟩ := z
  cases o <;> cases q <;> cases r <;> simp [ltP] at h h2 ⊢ <;> omega
theorem ltS_trans {x y z : St} (h : ltS x y = true) (h2 : ltS y z = true) : ltS x z = true := by
  obtain ⟨a, o⟩ := x
  obtain ⟨b, q⟩ := y
  obtain ⟨c, r⟩ := z
  simp only [ltS, Bool.or_eq_true, Bool.and_eq_true, beq_iff_eq] at h h2 ⊢
  rcases h with h | ⟨rfl, h⟩ <;> rcases h2 with h2 | ⟨rfl, h2⟩
  · exact .inl (ltP_trans h h2)
  · exact .inl h
  · exact .inl h2
  · exact .inr ⟨rfl, ltP_trans h h2⟩
theorem ltS_irr (x : St) : ltS x x = false := by simp [ltS, ltP_irr]
def leS (s t : St) : Bool := !ltS t s
theorem leS_trans {x y z : St} (h : leS x y = true) (h2 : leS y z = true) : leS x z = true := by
  simp only [leS, Bool.not_eq_true'] at h h2 ⊢
  cases e : ltS z x with
  | false => rfl
  | true =>
    rcases ltS_tot x y h with q | rfl
    · rw [ltS_trans e q] at h2; cases h2
    · rw [e] at h2; cases h2
theorem leS_tot (x y : St) : (leS x y || leS y x) = true := by
  simp only [leS, Bool.or_eq_true, Bool.not_eq_true']
  cases e : ltS y x with
  | false => exact .inl rfl
  | true =>
    right
    cases e2 : ltS x y with
    | false => rfl
    | true => have := ltS_trans e e2; rw [ltS_irr] at this; cases this
theorem leS_anti {x y : St} (h : leS x y = true) (h2 : leS y x = true) : x = y := by
  simp only [leS, Bool.not_eq_true'] at h h2
  rcases ltS_tot x y h with q | q
  · rw [q] at h2; cases h2
  · exact q
/-- sorting a list of different standings -/
theorem sort_st {l : List St} (h : l.Nodup) (hi : ∀ s ∈ l, InB s) : l.mergeSort leS = stOf (· ∈ l) := by
  refine List.Perm.eq_of_pairwise (le := fun a b => leS a b = true) (fun a b _ _ => leS_anti) (List.pairwise_mergeSort (le := leS) (fun _ _ _ => leS_trans) leS_tot l) ?_ ?_
  · refine List.Pairwise.sublist List.filter_sublist (all_sorted.imp fun {s t} q => ?_)
    simp only [leS, Bool.not_eq_true']
    cases e : ltS t s with
    | false => rfl
    | true => have := ltS_trans q e; rw [ltS_irr] at this; cases this
  · refine (List.mergeSort_perm _ _).trans ((List.perm_ext_iff_of_nodup h (List.Nodup.sublist List.filter_sublist all_nodup)).mpr fun a => ?_)
    constructor
    · intro ha
      exact mem_stOf.mpr ⟨hi a ha, ha⟩
    · intro ha
      exact (mem_stOf.mp ha).2
/-! ### gathering standings -/
def addL (f ts : List St) : List St := ts.foldl (fun f t => if t ∈ f then f else f ++ [t]) f
theorem addL_nil {f : List St} : addL f [] = f := rfl
theorem addL_cons {f : List St} {t : St} {ts : List St} : addL f (t :: ts) = addL (if t ∈ f then f else f ++ [t]) ts := rfl
theorem addL_app {f ts us : List St} : addL f (ts ++ us) = addL (addL f ts) us := by simp [addL, List.foldl_append]
theorem addL_pre : ∀ (ts f : List St), ∃ n, addL f ts = f ++ n ∧ ∀ s ∈ n, s ∈ ts
  | [], f => ⟨[], by simp [addL], by simp⟩
  | t :: ts, f => by
    rw [addL_cons]
    by_cases h : t ∈ f
    · rw [if_pos h]
      obtain ⟨n, e, q⟩ := addL_pre ts f
      exact ⟨n, e, fun s hs => List.mem_cons_of_mem _ (q s hs)⟩
    · rw [if_neg h]
      obtain ⟨n, e, q⟩ := addL_pre ts (f ++ [t])
      refine ⟨t :: n, by rw [e]; simp, fun s hs => ?_⟩
      rcases List.mem_cons.mp hs with rfl | hs
      · simp
      · exact List.mem_cons_of_mem _ (q s hs)
theorem addL_nodup : ∀ (ts f : List St), f.Nodup → (addL f ts).Nodup
  | [], f, h => h
  | t :: ts, f, h => by
    rw [addL_cons]
    refine addL_nodup ts _ ?_
    split
    · exact h
    · rename_i q
      exact List.nodup_append.mpr ⟨h, by simp, fun a ha b hb => by
        simp at hb; subst hb
        intro e; subst e; exact q ha⟩
theorem addL_mem : ∀ (ts f : List St) (s : St), s ∈ addL f ts ↔ s ∈ f ∨ s ∈ ts
  | [], f, s => by simp [addL]
  | t :: ts, f, s => by
    rw [addL_cons, addL_mem ts]
    by_cases h : t ∈ f
    · rw [if_pos h]
      constructor
      · rintro (q | q)
        · exact .inl q
        · exact .inr (List.mem_cons_of_mem _ q)
      · rintro (q | q)
        · exact .inl q
        · rcases List.mem_cons.mp q with rfl | q
          · exact .inl h
          · exact .inr q
    · rw [if_neg h]
      simp
      constructor
      · rintro ((q | q) | q)
        · exact .inl q
        · exact .inr (.inl q)
        · exact .inr (.inr q)
      · rintro (q | q | q)
        · exact .inl (.inl q)
        · exact .inl (.inr q)
        · exact .inr q
/-- a set that holds the first and what comes from each is all that comes -/
theorem closed_all {bs : List Bn} {op : Bool} {a : St} {f : List St} (ha : a ∈ f) (hr : ∀ s ∈ f, Rch bs op a s) (hc : ∀ s ∈ f, ∀ t ∈ nxt bs op s, t ∈ f) (s : St) : s ∈ f ↔ Rch bs op a s := by
  refine ⟨hr s, fun r => ?_⟩
  induction r with
  | nil => exact ha
  | step _ t ih => exact hc _ ih _ t
/-- what the search in depth keeps -/
structure Dfs (bs : List Bn) (a : St) (f w : List St) : Prop where
  nd : f.Nodup
  ha : a ∈ f
  r : ∀ s ∈ f, Rch bs false a s
  hw : ∀ s ∈ w, s ∈ f
  c : ∀ s ∈ f, s ∉ w → ∀ t ∈ nxt bs false s, t ∈ f
theorem Dfs.begin (bs : List Bn) (a : St) : Dfs bs a [a] [a] := ⟨by simp, by simp, fun s hs => by simp at hs; subst hs; exact .nil, fun s h => h, fun s h q => absurd h q⟩
theorem Dfs.turn {bs : List Bn} {a s : St} {f w n : List St} (h : Dfs bs a f (w ++ [s])) (e : addL f (nxt bs false s) = f ++ n) : Dfs bs a (f ++ n) (w ++ n) := by
  have hs : s ∈ f := h.hw s (by simp)
  have hm : ∀ t, t ∈ f ++ n ↔ t ∈ f ∨ t ∈ nxt bs false s := fun t => by rw [← e]; exact addL_mem _ _ _
  refine ⟨by rw [← e]; exact addL_nodup _ _ h.nd, by simp [h.ha], fun t ht => ?_, fun t ht => ?_, fun t ht hn u hu => ?_⟩
  · rcases (hm t).mp ht with q | q
    · exact h.r t q
    · exact .step (h.r s hs) q
  · rcases List.mem_append.mp ht with q | q
    · exact List.mem_append.mpr (.inl (h.hw t (by simp [q])))
    · exact List.mem_append.mpr (.inr q)
  · rw [hm]
    by_cases q : t = s
    · subst q; exact .inr hu
    · rcases List.mem_append.mp ht with ht | ht
      · refine .inl (h.c t ht (fun z => ?_) u hu)
        rcases List.mem_append.mp z with z | z
        · exact hn (by simp [z])
        · simp at z; exact q z
      · exact absurd (by simp [ht]) hn
theorem Dfs.all {bs : List Bn} {a : St} {f : List St} (h : Dfs bs a f []) (s : St) : s ∈ f ↔ Rch bs false a s := closed_all h.ha h.r (fun s hs t ht => h.c s hs (by simp) t ht) s
theorem Dfs.len {bs : List Bn} {a : St} {f w : List St} (hb : OkB bs) (ha : InB a) (h : Dfs bs a f w) : f.length ≤ 100 := bound h.nd fun s hs => (h.r s hs).inb hb ha
/-- what the search in breadth keeps -/
structure Bfs (bs : List Bn) (op : Bool) (a : St) (f : List St) (k : Nat) : Prop where
  nd : f.Nodup
  ha : a ∈ f
  r : ∀ s ∈ f, Rch bs op a s
  hk : k ≤ f.length
  c : ∀ i s, i < k → f[i]? = some s → ∀ t ∈ nxt bs op s, t ∈ f
theorem Bfs.begin (bs : List Bn) (op : Bool) (a : St) : Bfs bs op a [a] 0 := ⟨by simp, by simp, fun s hs => by simp at hs; subst hs; exact .nil, by simp, fun i s hi => by omega⟩
theorem Bfs.turn {bs : List Bn} {op : Bool} {a s : St} {f : List St} {k : Nat} (h : Bfs bs op a f k) (hs : f[k]? = some s) : Bfs bs op a (addL f (nxt bs op s)) (k + 1) := by
  obtain ⟨n, e, _⟩ := addL_pre (nxt bs op s) f
  have hk := (List.getElem?_eq_some_iff.mp hs).1
  have hm : ∀ t, t ∈ addL f (nxt bs op s) ↔ t ∈ f ∨ t ∈ nxt bs op s := fun t => addL_mem _ _ _
  refine ⟨addL_nodup _ _ h.nd, (hm _).mpr (.inl h.ha), fun t ht => ?_, by rw [e]; simp; omega, fun i t hi ht u hu => ?_⟩
  · rcases (hm t).mp ht with q | q
    · exact h.r t q
    · exact .step (h.r s (List.mem_of_getElem? hs)) q
  · rw [hm]
    have hif : f[i]? = some t := by
      rw [e, List.getElem?_append_left (by omega)] at ht
      exact ht
    by_cases q : i = k
    · subst q
      rw [hs] at hif; cases hif
      exact .inr hu
    · exact .inl (h.c i t (by omega) hif u hu)
theorem Bfs.all {bs : List Bn} {op : Bool} {a : St} {f : List St} (h : Bfs bs op a f f.length) (s : St) : s ∈ f ↔ Rch bs op a s := by
  refine closed_all h.ha h.r (fun s hs t ht => ?_) s
  obtain ⟨i, hi⟩ := List.mem_iff_getElem?.mp hs
  exact h.c i s (List.getElem?_eq_some_iff.mp hi).1 hi t ht
theorem Bfs.len {bs : List Bn} {op : Bool} {a : St} {f : List St} {k : Nat} (hb : OkB bs) (ha : InB a) (h : Bfs bs op a f k) : f.length ≤ 100 := bound h.nd fun s hs => (h.r s hs).inb hb ha
theorem stOf_congr {P Q : St → Prop} (h : ∀ s, P s ↔ Q s) : stOf P = stOf Q := by
  unfold stOf
  congr 1
  funext s
  simp [h s]
end SZ
end
section
/-! MC: greatest and least; chances within so many draws. -/
namespace SZ
def mx (a b : Rat) : Rat := if a < b then b else a
def mn (a b : Rat) : Rat := if b < a then b else a
theorem mx_bd {k m : Nat} {a b : Rat} (ha : Bd k m a) (hb : Bd k m b) : Bd k m (mx a b) := by unfold mx; split <;> assumption
theorem mn_bd {k m : Nat} {a b : Rat} (ha : Bd k m a) (hb : Bd k m b) : Bd k m (mn a b) := by unfold mn; split <;> assumption
theorem mx_self (a : Rat) : mx a a = a := by unfold mx; split <;> rfl
theorem mn_self (a : Rat) : mn a a = a := by unfold mn; split <;> rfl
/-- the greatest of a list with a first -/
def gre (l : List Rat) : Rat := l.tail.foldl mx (l.head?.getD 0)
def lea (l : List Rat) : Rat := l.tail.foldl mn (l.head?.getD 0)
theorem foldl_bd {f : Rat → Rat → Rat} {k m : Nat} (hf : ∀ a b, Bd k m a → Bd k m b → Bd k m (f a b)) : ∀ (l : List Rat) (a : Rat), Bd k m a → (∀ x ∈ l, Bd k m x) → Bd k m (l.foldl f a)
  | [], a, ha, _ => ha
  | b :: l, a, ha, h => foldl_bd hf l (f a b) (hf a b ha (h b (by simp))) fun x hx => h x (List.mem_cons_of_mem _ hx)
theorem gre_bd {k m : Nat} {l : List Rat} (h : ∀ x ∈ l, Bd k m x) : Bd k m (gre l) := by
  unfold gre
  refine foldl_bd (fun a b => mx_bd) _ _ ?_ fun x hx => h x (List.mem_of_mem_tail hx)
  cases l with
  | nil => exact Bd.zero
  | cons a l => exact h a (by simp)
theorem lea_bd {k m : Nat} {l : List Rat} (h : ∀ x ∈ l, Bd k m x) : Bd k m (lea l) := by
  unfold lea
  refine foldl_bd (fun a b => mn_bd) _ _ ?_ fun x hx => h x (List.mem_of_mem_tail hx)
  cases l with
  | nil => exact Bd.zero
  | cons a l => exact h a (by simp)
/-- the sum of chances times worths, as it is summed -/
def wsum (v : W3 × Rat × St → Rat) (l : List (W3 × Rat × St)) : Rat := l.foldl (fun q m => q + m.2.1 * v m) 0
theorem wsum_bd {v : W3 × Rat × St → Rat} {k M : Nat} {l : List (W3 × Rat × St)} (h : ∀ m ∈ l, Bd 4 1 m.2.1 ∧ Bd k M (v m)) (q : Rat) (j : Nat) (hq : Bd (4 + k) (j * M) q) : Bd (4 + k) ((j + l.length) * M) (l.foldl (fun q m => q + m.2.1 * v m) q) := by
  induction l generalizing q j with
  | nil => simpa using hq
  | cons m l ih =>
    obtain ⟨h1, h2⟩ := h m (by simp)
    have h3 := (hq.add (h1.mul h2)).up (Nat.le_refl _) (show j * M + 1 * M ≤ (j + 1) * M by rw [Nat.add_mul]; omega)
    have := ih (fun x hx => h x (List.mem_cons_of_mem _ hx)) _ (j + 1) h3
    simp only [List.length_cons, List.foldl_cons]
    rw [show j + (l.length + 1) = j + 1 + l.length by omega]
    exact this
/-- the greatest chance of a wished prize within n, by fuel -/
def Wi (bs : List Bn) (cost : Bn → Nat) : Nat → St → Nat → Rat
  | 0, _, _ => 0
  | f + 1, s, n => gre (0 :: ((bs.filter fun b => decide (cost b ≤ n)).map fun b => wsum (fun m => if isW m.1 then 1 else Wi bs cost f m.2.2 (n - cost b)) (mvs b s)))
/-- what a box comes to -/
def Wb (bs : List Bn) (cost : Bn → Nat) (f : Nat) (s : St) (n : Nat) (b : Bn) : Rat := wsum (fun m => if isW m.1 then 1 else Wi bs cost f m.2.2 (n - cost b)) (mvs b s)
theorem wsum_congr {v v' : W3 × Rat × St → Rat} {l : List (W3 × Rat × St)} (h : ∀ m ∈ l, v m = v' m) : wsum v l = wsum v' l := by
  unfold wsum
  generalize (0 : Rat) = q
  induction l generalizing q with
  | nil => rfl
  | cons m l ih =>
    simp only [List.foldl_cons]
    rw [h m (by simp)]
    exact ih (fun x hx => h x (List.mem_cons_of_mem _ hx)) _
theorem Wi_fuel {bs : List Bn} {cost : Bn → Nat} (hc : ∀ b ∈ bs, 1 ≤ cost b) : ∀ (f f' : Nat) (s : St) (n : Nat), n < f → n < f' → Wi bs cost f s n = Wi bs cost f' s n
  | 0, _, _, _, h, _ => by omega
  | _, 0, _, _, _, h => by omega
  | f + 1, f' + 1, s, n, h, h' => by
    simp only [Wi]
    congr 2
    refine List.map_congr_left fun b hb => ?_
    obtain ⟨hb1, hb2⟩ := List.mem_filter.mp hb
    have h1 := hc b hb1
    have h2 := of_decide_eq_true hb2
    refine wsum_congr fun m _ => ?_
    split
    · rfl
    · exact Wi_fuel hc f f' m.2.2 (n - cost b) (by omega) (by omega)
def Wd (bs : List Bn) (cost : Bn → Nat) (s : St) (n : Nat) : Rat := Wi bs cost (n + 1) s n
def Wx (bs : List Bn) (cost : Bn → Nat) (s : St) (n : Nat) (b : Bn) : Rat := wsum (fun m => if isW m.1 then 1 else Wd bs cost m.2.2 (n - cost b)) (mvs b s)
theorem Wd_eq {bs : List Bn} {cost : Bn → Nat} (hc : ∀ b ∈ bs, 1 ≤ cost b) (s : St) (n : Nat) : Wd bs cost s n = gre (0 :: ((bs.filter fun b => decide (cost b ≤ n)).map fun b => Wx bs cost s n b)) := by
  unfold Wd
  simp only [Wi]
  congr 2
  refine List.map_congr_left fun b hb => ?_
  obtain ⟨hb1, hb2⟩ := List.mem_filter.mp hb
  have h1 := hc b hb1
  have h2 := of_decide_eq_true hb2
  unfold Wx
  refine wsum_congr fun m _ => ?_
  split
  · rfl
  · exact Wi_fuel hc _ _ _ _ (by omega) (by omega)
theorem mul3 {a : Nat} (h : a ≤ 3) {n c : Nat} (hc : 1 ≤ c) (hn : c ≤ n) : (0 + a) * 3 ^ (n - c) ≤ 3 ^ n := by
  obtain ⟨d, rfl⟩ := Nat.exists_eq_add_of_le hn
  rw [Nat.zero_add, Nat.add_sub_cancel_left, Nat.pow_add]
  have : 3 ≤ 3 ^ c := by
    have := Nat.pow_le_pow_right (show 0 < 3 by decide) hc
    simpa using this
  exact Nat.mul_le_mul (Nat.le_trans h this) (Nat.le_refl _)
theorem Wx_bd' {bs : List Bn} {cost : Bn → Nat} (ok : OkB bs) {n : Nat} (ih : ∀ n', n' < n → ∀ s, Bd (4 * n') (3 ^ n') (Wd bs cost s n')) (hb : ∀ b ∈ bs, ∀ s, ∀ m ∈ mvs b s, Bd 4 1 m.2.1) {s : St} {b : Bn} (hbb : b ∈ bs) (h1 : 1 ≤ cost b) (h2 : cost b ≤ n) : Bd (4 * n) (3 ^ n) (Wx bs cost s n b) := by
  have := wsum_bd (v := fun m => if isW m.1 then 1 else Wd bs cost m.2.2 (n - cost b)) (k := 4 * (n - cost b)) (M := 3 ^ (n - cost b)) (l := mvs b s) (fun m hm => ⟨hb b hbb s m hm, by
    split
    · exact (Bd.nat 1).up (Nat.zero_le _) (Nat.pow_pos (by decide))
    · exact ih _ (by omega) _⟩) 0 0 Bd.zero
  exact this.up (by omega) (mul3 (mvs_len s) h1 h2)
theorem Wd_bd {bs : List Bn} {cost : Bn → Nat} (ok : OkB bs) (hc : ∀ b ∈ bs, 1 ≤ cost b) (hb : ∀ b ∈ bs, ∀ s, ∀ m ∈ mvs b s, Bd 4 1 m.2.1) (n : Nat) : ∀ s, Bd (4 * n) (3 ^ n) (Wd bs cost s n) := by
  induction n using Nat.strongRecOn with
  | _ n ih =>
    intro s
    rw [Wd_eq hc]
    refine gre_bd fun x hx => ?_
    rcases List.mem_cons.mp hx with rfl | hx
    · exact Bd.zero
    · obtain ⟨b, hb', rfl⟩ := List.mem_map.mp hx
      obtain ⟨hb1, hb2⟩ := List.mem_filter.mp hb'
      exact Wx_bd' ok ih hb hb1 (hc b hb1) (of_decide_eq_true hb2)
def itr {γ : Type} (g : γ → γ) : Nat → γ → γ
  | 0, c => c
  | n + 1, c => itr g n (g c)
theorem foldl_fst {α β γ : Type} (f : β → α → β) (g : γ → γ) : ∀ (l : List α) (b : β) (c : γ), l.foldl (fun (q : β × γ) a => (f q.1 a, g q.2)) (b, c) = (l.foldl f b, itr g l.length c)
  | [], _, _ => rfl
  | a :: l, b, c => by
    simp only [List.foldl_cons, List.length_cons]
    exact foldl_fst f g l (f b a) (g c)
end SZ
end
section
/-! SA: fractions in lowest terms, as Rat. -/
namespace SZ
open PySem PySem.Spec PySem.W
/-- how far a divisor may go -/
def DivS (n : Nat) : Prop := 0 < n ∧ n.log2 < 9000
theorem divOk_nat {n : Nat} (h : DivS n) : divOk (n : Int) = true := by
  simp only [divOk, Bool.and_eq_true, decide_eq_true_eq, Int.natAbs_natCast]
  exact ⟨by have := h.1; omega, h.2⟩
theorem div_loop {c : Nat → Nat → Sl} {t : TF} {f : SF} {μ : MH} (ht : ∀ a b, t (c a b) μ = .ok (decide (b ≠ 0)) μ) (hf : ∀ a b, 0 < b → f (c a b) μ = .nx (c b (a % b)) μ) : ∀ (n a b : Nat), b < n → ∃ a', sWh t f n (c a b) μ = .nx (c (Nat.gcd a b) a') μ ∧ a' = 0
  | 0, a, b, h => by omega
  | n + 1, a, b, h => by
    by_cases hb : b = 0
    · subst hb
      refine ⟨0, ?_, rfl⟩
      rw [Nat.gcd_zero_right]
      simp [sWh, ht]
    · obtain ⟨a', e, e2⟩ := div_loop ht hf n b (a % b) (by have := Nat.mod_lt a (show b > 0 by omega); omega)
      refine ⟨a', ?_, e2⟩
      have hg : Nat.gcd a b = Nat.gcd b (a % b) := by rw [Nat.gcd_comm, Nat.gcd_rec, Nat.gcd_comm]
      rw [hg, ← e]
      simp [sWh, ht, hf a b (by omega), hb]
theorem ne0 {b : Nat} {μ : MH} : eqD true (.int (b : Nat)) (.int 0) μ = .ok (.bl (decide (b ≠ 0))) μ := by
  rw [eqD_py (p := .int b) (q := .int 0) (pyM_of rfl) (pyM_of rfl) (by simp [PyData.depth])]
  have : PyData.eqv (.int (b : Int)) (.int 0) = decide (b = 0) := by
    simp [PyData.eqv]
    by_cases h : b = 0
    · simp [h]
    · simp [h]
  rw [this]
  by_cases h : b = 0 <;> simp [h]
theorem divisor_ok {a b : Nat} {μ : MH} : F_divisor [.int a, .int b] μ = .ok (.int (Nat.gcd a b : Nat)) μ := by
  have ht0 : ∀ i : Int, trunc μ (R.ok (.int i) μ) = .ok (.int i) μ := fun i => trunc_len rfl
  obtain ⟨a', e, _⟩ := div_loop (c := fun a b => [some (.int (a : Nat)), some (.int (b : Nat))]) (t := (tVal (eB (eqD true) (eVar 1) (eC (.int 0))))) (f := (sSeq (sPar [0, 1] (aCons (eVar 1) (aCons (eB modD (eVar 0) (eVar 1)) (aNil)))) (sNil))) (μ := μ) (fun a b => by
      have := ne0 (b := b) (μ := μ)
      simp [-eqD, this]) (fun a b hb => by
      have : (0 : Int) < (b : Int) := by omega
      simp [this, hb]) (b + 1) a b (by omega)
  have e2 : L_divisor_1 [some (.int (a : Nat)), some (.int (b : Nat))] μ = .nx [some (.int (Nat.gcd a b : Nat)), some (.int (a' : Nat))] μ := by
    unfold L_divisor_1 sWhile
    exact e
  simp [F_divisor, fnB, e2, ht0]
/-- a fraction as a tuple -/
def qD (q : Rat) : D := .tup [.int q.num, .int q.den]
theorem mk_qD (t b : Nat) (h : 0 < b) : qD (mkRat t b) = .tup [.int ((t / Nat.gcd t b : Nat) : Int), .int ((b / Nat.gcd t b : Nat) : Int)] := by
  have hb : b ≠ 0 := by omega
  unfold qD
  rw [Rat.num_mkRat, Rat.den_mkRat, if_neg hb, if_neg hb, Int.natAbs_natCast, Nat.gcd_comm b t]
  simp
theorem gcdS {t b : Nat} (h : DivS b) : DivS (Nat.gcd t b) := by
  have h1 := Nat.gcd_pos_of_pos_right t h.1
  refine ⟨h1, ?_⟩
  have hle := Nat.gcd_le_right t h.1
  rw [Nat.log2_lt (by omega)]
  have := (Nat.log2_lt (k := 9000) (show b ≠ 0 by have := h.1; omega)).mp h.2
  exact Nat.lt_of_le_of_lt hle this
theorem fraction_ok {t b : Nat} {μ : MH} (h : DivS b) : F_fraction [.int t, .int b] μ = .ok (qD (mkRat t b)) μ := by
  have ht0 : ∀ d : D, trunc μ (R.ok d μ) = .ok d μ := fun i => trunc_len rfl
  have e := divisor_ok (a := t) (b := b) (μ := μ)
  have hd := divOk_nat (gcdS (t := t) h)
  have hz2 : 2 ≤ sizeLine := le_size (by decide)
  rw [mk_qD t b h.1]
  generalize hg : Nat.gcd t b = g at e hd
  simp [F_fraction, fnB, e, hd, hz2, ht0]
theorem law_fraction_ok {t b : Nat} {μ : MH} (h : DivS b) : F__law_fraction [.int t, .int b] μ = .ok (qD (mkRat t b)) μ := by
  have ht0 : ∀ d : D, trunc μ (R.ok d μ) = .ok d μ := fun i => trunc_len rfl
  have hd := divOk_nat (gcdS (t := t) h)
  have hz2 : 2 ≤ sizeLine := le_size (by decide)
  obtain ⟨a', e, _⟩ := div_loop (c := fun x y => [some (.int (t : Nat)), some (.int (b : Nat)), some (.int (x : Nat)), some (.int (y : Nat))]) (t := (tVal (eB (eqD true) (eVar 3) (eC (.int 0))))) (f := (sSeq (sPar [2, 3] (aCons (eVar 3) (aCons (eB modD (eVar 2) (eVar 3)) (aNil)))) (sNil))) (μ := μ) (fun a b => by
      have := ne0 (b := b) (μ := μ)
      simp [-eqD, this]) (fun a b hb => by
      have : (0 : Int) < (b : Int) := by omega
      simp [this, hb]) (b + 1) t b (by omega)
  have e2 : L__law_fraction_1 [some (.int (t : Nat)), some (.int (b : Nat)), some (.int (t : Nat)), some (.int (b : Nat))] μ = .nx [some (.int (t : Nat)), some (.int (b : Nat)), some (.int (Nat.gcd t b : Nat)), some (.int (a' : Nat))] μ := by
    unfold L__law_fraction_1 sWhile
    exact e
  rw [mk_qD t b h.1]
  generalize hg : Nat.gcd t b = g at e2 hd
  simp [F__law_fraction, fnB, e2, hd, hz2, ht0]
/-! ### sums, products, which is less -/
theorem Sm.num {q : Rat} (h : Sm q) : ∃ n : Nat, q.num = n := by
  have := Rat.num_nonneg.mpr h.nn
  exact ⟨q.num.toNat, by omega⟩
theorem Sm.div {a b : Rat} (ha : Sm a) (hb : Sm b) : DivS (a.den * b.den) := by
  have h1 := a.den_pos
  have h2 := b.den_pos
  refine ⟨Nat.mul_pos h1 h2, ?_⟩
  rw [Nat.log2_lt (by have := Nat.mul_pos h1 h2; omega)]
  calc a.den * b.den < 2 ^ 4000 * 2 ^ 4000 := Nat.mul_lt_mul'' ha.dn hb.dn
    _ = 2 ^ 8000 := by rw [← Nat.pow_add]
    _ ≤ 2 ^ 9000 := Nat.pow_le_pow_right (by decide) (by decide)
theorem mulOk_nat {a b : Nat} (ha : a < 2 ^ 400000) (hb : b < 2 ^ 400000) : mulOk (a : Int) (b : Int) = true := by
  have lg : ∀ {a : Nat}, a < 2 ^ 400000 → a.log2 < 400000 := fun {a} h => by
    by_cases q : a = 0
    · subst q; decide
    · exact (Nat.log2_lt q).mpr h
  have h1 := lg ha
  have h2 := lg hb
  have : a.log2 + b.log2 < 1000000 := by omega
  simp only [mulOk, Int.natAbs_natCast, decide_eq_true this, Bool.or_true]
theorem p4000 {n : Nat} (h : n < 2 ^ 4000) : n < 2 ^ 400000 := Nat.lt_of_lt_of_le h (Nat.pow_le_pow_right (by decide) (by decide))
theorem Sm.nd {a b : Rat} (ha : Sm a) (hb : Sm b) : mulOk a.num (b.den : Int) = true := by
  obtain ⟨n, e⟩ := ha.num
  have h := ha.nm
  rw [e] at h ⊢
  exact mulOk_nat (by simpa using h) (p4000 hb.dn)
theorem Sm.dd {a b : Rat} (ha : Sm a) (hb : Sm b) : mulOk (a.den : Int) (b.den : Int) = true := mulOk_nat (p4000 ha.dn) (p4000 hb.dn)
theorem Sm.nn' {a b : Rat} (ha : Sm a) (hb : Sm b) : mulOk a.num b.num = true := by
  obtain ⟨n, e⟩ := ha.num
  obtain ⟨m, e2⟩ := hb.num
  have h := ha.nm
  have h2 := hb.nm
  rw [e] at h ⊢
  rw [e2] at h2 ⊢
  exact mulOk_nat (by simpa using h) (by simpa using h2)
theorem plus_gen {F : FF} (hF : ∀ (t b : Nat) (μ : MH), DivS b → F [.int t, .int b] μ = .ok (qD (mkRat t b)) μ) {a b : Rat} {μ : MH} (ha : Sm a) (hb : Sm b) :
    F [.int (a.num * b.den + b.num * a.den), .int ((a.den : Int) * b.den)] μ = .ok (qD (a + b)) μ := by
  obtain ⟨n, e⟩ := ha.num
  obtain ⟨m, e2⟩ := hb.num
  have := hF (n * b.den + m * a.den) (a.den * b.den) μ (ha.div hb)
  rw [Rat.add_def', e, e2]
  simpa using this
theorem times_gen {F : FF} (hF : ∀ (t b : Nat) (μ : MH), DivS b → F [.int t, .int b] μ = .ok (qD (mkRat t b)) μ) {a b : Rat} {μ : MH} (ha : Sm a) (hb : Sm b) :
    F [.int (a.num * b.num), .int ((a.den : Int) * b.den)] μ = .ok (qD (a * b)) μ := by
  obtain ⟨n, e⟩ := ha.num
  obtain ⟨m, e2⟩ := hb.num
  have := hF (n * m) (a.den * b.den) μ (ha.div hb)
  have e3 : a * b = mkRat (a.num * b.num) (a.den * b.den) := by rw [Rat.mul_def, Rat.normalize_eq_mkRat]
  rw [e3, e, e2]
  simpa using this
theorem q_ix0 {a : Rat} {μ : MH} : ixD (qD a) (.int 0) μ = .ok (.int a.num) μ := by simp [qD]
theorem q_ix1 {a : Rat} {μ : MH} : ixD (qD a) (.int 1) μ = .ok (.int a.den) μ := by simp [qD]
theorem plus_ok {a b : Rat} {μ : MH} (ha : Sm a) (hb : Sm b) : F_plus [qD a, qD b] μ = .ok (qD (a + b)) μ := by
  have e := plus_gen (μ := μ) (fun t b μ h => fraction_ok h) ha hb
  simp [-ixD, F_plus, fnB, q_ix0, q_ix1, ha.nd hb, hb.nd ha, ha.dd hb, e]
theorem times_ok {a b : Rat} {μ : MH} (ha : Sm a) (hb : Sm b) : F_times [qD a, qD b] μ = .ok (qD (a * b)) μ := by
  have e := times_gen (μ := μ) (fun t b μ h => fraction_ok h) ha hb
  simp [-ixD, F_times, fnB, q_ix0, q_ix1, ha.nn' hb, ha.dd hb, e]
theorem law_plus_ok {a b : Rat} {μ : MH} (ha : Sm a) (hb : Sm b) : F__law_plus [qD a, qD b] μ = .ok (qD (a + b)) μ := by
  have e := plus_gen (μ := μ) (fun t b μ h => law_fraction_ok h) ha hb
  simp [-ixD, F__law_plus, fnB, q_ix0, q_ix1, ha.nd hb, hb.nd ha, ha.dd hb, e]
theorem law_times_ok {a b : Rat} {μ : MH} (ha : Sm a) (hb : Sm b) : F__law_times [qD a, qD b] μ = .ok (qD (a * b)) μ := by
  have e := times_gen (μ := μ) (fun t b μ h => law_fraction_ok h) ha hb
  simp [-ixD, F__law_times, fnB, q_ix0, q_ix1, ha.nn' hb, ha.dd hb, e]
theorem is_less_ok {a b : Rat} {μ : MH} (ha : Sm a) (hb : Sm b) : F_is_less [qD a, qD b] μ = .ok (.bl (decide (a < b))) μ := by
  simp [-ixD, F_is_less, fnB, q_ix0, q_ix1, ha.nd hb, hb.nd ha, Rat.lt_iff]
theorem law_less_ok {a b : Rat} {μ : MH} (ha : Sm a) (hb : Sm b) : F__law_less [qD a, qD b] μ = .ok (.bl (decide (a < b))) μ := by
  simp [-ixD, F__law_less, fnB, q_ix0, q_ix1, ha.nd hb, hb.nd ha, Rat.lt_iff]
theorem qD_bel {n : Nat} {q : Rat} : (qD q).bel n = true := by simp [qD, D.bel, bels]
theorem qD_py (q : Rat) : py (qD q) = some (.tuple [.int q.num, .int q.den]) := rfl
theorem qD_inj {a b : Rat} (h : qD a = qD b) : a = b := by
  simp [qD] at h
  exact Rat.ext h.1 (by omega)
end SZ
end
section
/-! SB: what can come from a box. -/
namespace SZ
open PySem PySem.Spec PySem.W U
def Bn.bx (b : Bn) : Bx := ⟨b.k, b.p, b.h, (b.l.map fun n : Nat => (n : Int)) ++ [100]⟩
abbrev bkN (bs : List Bn) (kp : List Int) : D := bkD (bs.map Bn.bx) kp
abbrev dcN (bs : List Bn) (kp : List Int) : D := dcD (bs.map Bn.bx) kp
def prD (t : Nat × Bool) : D := .tup [.int t.1, .bl t.2]
def zD (s : St) : D := .tup [prD s.1, prD s.2]
def wS : W3 → Str
  | .miss => "miss"
  | .other => "other"
  | .wished => "wished"
def mvD (m : W3 × Rat × St) : D := .tup [.str (wS m.1), qD m.2.1, zD m.2.2]
theorem Bn.Ok.bx {b : Bn} (h : b.Ok) : b.bx.Ok 5 := by
  refine ⟨?_, ?_, ?_, b.l.map (fun n : Nat => (n : Int)), rfl, ?_, ?_⟩
  · have := h.k; simp [Bn.bx]; omega
  · have := h.p; simp [Bn.bx]; omega
  · have := h.h; simp [Bn.bx]; omega
  · have := h.l; simp; omega
  · intro c hc
    obtain ⟨n, hn, rfl⟩ := List.mem_map.mp hc
    have := h.c n hn
    omega
theorem bx_of {x : Bx} {m : Nat} (h : x.Ok m) (hm : m ≤ 5) : ∃ b : Bn, x = b.bx ∧ b.Ok ∧ b.l.length < m := by
  obtain ⟨⟨k1, k2⟩, ⟨p1, p2⟩, ⟨h1, h2⟩, l, e, hl, hc⟩ := h
  refine ⟨⟨x.k.toNat, x.p.toNat, x.h.toNat, l.map Int.toNat⟩, ?_, ⟨by simp; omega, by simp; omega, by simp; omega, by simp; omega, ?_⟩, by simpa using hl⟩
  · cases x
    simp only [Bn.bx] at *
    simp only [Bx.mk.injEq]
    refine ⟨by omega, by omega, by omega, ?_⟩
    rw [e, List.map_map]
    congr 1
    refine (List.map_id l).symm.trans (List.map_congr_left fun c hc' => ?_)
    have := hc c hc'
    simp
    omega
  · intro c hc'
    simp only [List.mem_map] at hc'
    obtain ⟨z, hz, rfl⟩ := hc'
    have := hc z hz
    omega
theorem bxs_of {bs : List Bx} {m : Nat} (hm : m ≤ 5) (h : ∀ x ∈ bs, x.Ok m) : ∃ ns : List Bn, bs = ns.map Bn.bx ∧ ∀ b ∈ ns, b.Ok ∧ b.l.length < m := by
  induction bs with
  | nil => exact ⟨[], rfl, by simp⟩
  | cons x r ih =>
    obtain ⟨ns, e, q⟩ := ih fun y hy => h y (List.mem_cons_of_mem _ hy)
    obtain ⟨b, e1, e2, e3⟩ := bx_of (h x (by simp)) hm
    exact ⟨b :: ns, by simp [e, e1], fun y hy => by
      rcases List.mem_cons.mp hy with rfl | hy
      · exact ⟨e2, e3⟩
      · exact q y hy⟩
/-! ### reading standings -/
theorem st_ix {s : St} {k : Nat} (hk : k < 2) {μ : MH} : ixD (zD s) (.int k) μ = .ok (prD (gk s k)) μ := by
  have : k = 0 ∨ k = 1 := by omega
  rcases this with rfl | rfl <;> simp [zD, gk]
theorem st_ix0 {s : St} {μ : MH} : ixD (zD s) (.int 0) μ = .ok (prD s.1) μ := by simp [zD]
theorem st_ix1 {s : St} {μ : MH} : ixD (zD s) (.int 1) μ = .ok (prD s.2) μ := by simp [zD]
theorem zD_put {s : St} {k : Nat} {t : Nat × Bool} : zD (pk s k t) = if k = 0 then .tup [prD t, prD s.2] else .tup [prD s.1, prD t] := by
  unfold pk zD
  split <;> rfl
theorem is0 {k : Nat} {μ : MH} : eqD false (.int (k : Nat)) (.int 0) μ = .ok (.bl (decide (k = 0))) μ := by
  have := U.int_eq (a := k) (b := 0) (neg := false) (μ := μ)
  simpa using this
theorem with_kind_ok {s : St} {k : Nat} {t : Nat × Bool} {μ : MH} : F_with_kind [zD s, .int k, prD t] μ = .ok (zD (pk s k t)) μ := by
  have ht0 : ∀ d : D, trunc μ (R.ok d μ) = .ok d μ := fun i => trunc_len rfl
  have hz2 : 2 ≤ sizeLine := le_size (by decide)
  rw [zD_put]
  by_cases h : k = 0
  · have e : eqD false (.int (k : Nat)) (.int 0) μ = .ok (.bl true) μ := by rw [is0]; simp [h]
    rw [if_pos h]
    simp [-ixD, -eqD, F_with_kind, fnB, e, st_ix1, hz2, ht0]
  · have e : eqD false (.int (k : Nat)) (.int 0) μ = .ok (.bl false) μ := by rw [is0]; simp [h]
    rw [if_neg h]
    simp [-ixD, -eqD, F_with_kind, fnB, e, st_ix0, hz2, ht0]
theorem zD_bel {n : Nat} {s : St} : (zD s).bel n = true := by simp [zD, prD, D.bel, bels]
/-! ### the program's moves -/
theorem bn_at {bs : List Bn} {i : Nat} {b : Bn} (h : bs[i]? = some b) : ((bs.map Bn.bx).map Bx.enc)[i]? = some b.bx.enc := by simp [h]
theorem ix_box {bs : List Bn} {i : Nat} {b : Bn} (h : bs[i]? = some b) {μ : MH} : ixD (.tup ((bs.map Bn.bx).map Bx.enc)) (.int i) μ = .ok b.bx.enc μ := by
  simp only [ixD, seqOf, atI_nat, bn_at h]
theorem bx_enc {b : Bn} : b.bx.enc = .tup [.int b.k, .int b.p, .int b.h, .tup (b.bx.cs.map D.int)] := rfl
theorem cs_len {b : Bn} : b.bx.cs.length = b.l.length + 1 := by simp [Bn.bx]
theorem cs_at {b : Bn} {c : Nat} (h : c ≤ b.l.length) {μ : MH} : ixD (.tup (b.bx.cs.map D.int)) (.int c) μ = .ok (.int (b.rare c : Nat)) μ := by
  have e : (b.bx.cs.map D.int)[c]? = some (.int (b.rare c : Nat)) := by
    unfold Bn.rare Bn.bx
    simp only [List.getElem?_map]
    by_cases q : c < b.l.length
    · rw [List.getElem?_append_left (by simpa using q)]
      simp [q]
    · have : c = b.l.length := by omega
      subst this
      rw [List.getElem?_append_right (by simp)]
      simp
  simp only [ixD, seqOf, atI_nat, e]
theorem rare_big {b : Bn} {c : Nat} (h : b.l.length ≤ c) : b.rare c = 100 := by simp [Bn.rare, h]
theorem rare_min {b : Bn} {c : Nat} : b.rare (min c b.l.length) = b.rare c := by
  by_cases h : c ≤ b.l.length
  · rw [Nat.min_eq_left h]
  · rw [Nat.min_eq_right (by omega), rare_big (Nat.le_refl _), rare_big (by omega)]
theorem min_ok {a b : Nat} {μ : MH} : minD [.int (a : Nat), .int ((b : Nat) : Int)] μ = .ok (.int ((min a b : Nat) : Int)) μ := by
  simp only [mmD]
  congr 2
  simp only [decide_eq_true_eq]
  split <;> omega
theorem mvs_map {b : Bn} {s : St} : (mvs b s).map mvD = (if b.rare (gk s b.k).1 < 100 then [.tup [.str "miss", qD (mkRat (100 - b.rare (gk s b.k).1 : Nat) 100), zD (pk s b.k ((gk s b.k).1 + 1, (gk s b.k).2))]] else []) ++
    ((if 0 < b.rare (gk s b.k).1 ∧ b.part (gk s b.k).2 < 100 then [.tup [.str "other", qD (mkRat (b.rare (gk s b.k).1 * (100 - b.part (gk s b.k).2) : Nat) 10000), zD (pk s b.k (0, true))]] else []) ++
    if 0 < b.rare (gk s b.k).1 then [.tup [.str "wished", qD (mkRat (b.rare (gk s b.k).1 * b.part (gk s b.k).2 : Nat) 10000), zD (pk s b.k (0, false))]] else []) := by
  unfold mvs mv1 mv2 mv3
  simp only [List.map_append]
  congr 1
  · split <;> rfl
  · congr 1
    · split <;> rfl
    · split <;> rfl
instance (n : Nat) : Decidable (DivS n) := inferInstanceAs (Decidable (_ ∧ _))
theorem d100 : DivS 100 := by decide
theorem d10000 : DivS 10000 := by decide
theorem moves_of_ok {bs : List Bn} {kp : List Int} {i : Nat} {b : Bn} {s : St} {μ : MH} (hb : bs[i]? = some b) (ok : b.Ok) : F_moves_of [bkN bs kp, zD s, .int i] μ = .ok (.lst ((mvs b s).map mvD)) μ := by
  have hz2 : 2 ≤ sizeLine := le_size (by decide)
  have hz3 : 3 ≤ sizeLine := le_size (by decide)
  have e0 : ∀ μ, fldD ct "told" (bkN bs kp) μ = .ok (.tup ((bs.map Bn.bx).map Bx.enc)) μ := fun μ => fld_told
  have e1 : ∀ μ, ixD (.tup ((bs.map Bn.bx).map Bx.enc)) (.int i) μ = .ok b.bx.enc μ := fun μ => ix_box hb
  have e2 : ∀ μ, ixD (zD s) (.int b.k) μ = .ok (prD (gk s b.k)) μ := fun μ => st_ix ok.k
  generalize hc : gk s b.k = t at *
  obtain ⟨c, o⟩ := t
  have e3 : ∀ μ, minD [.int (c : Nat), .int (b.l.length : Nat)] μ = .ok (.int ((min c b.l.length : Nat) : Int)) μ := fun μ => min_ok
  have e4 : ∀ μ, ixD (.tup (b.bx.cs.map D.int)) (.int ((min c b.l.length : Nat) : Int)) μ = .ok (.int (b.rare c : Nat)) μ := fun μ => by
    rw [cs_at (Nat.min_le_right _ _), rare_min]
  have hr := b.rare_le ok c
  have hp := b.part_le ok o
  have hpd : b.part o = if o then 100 else b.h := rfl
  rw [mvs_map, hc]
  simp only
  generalize b.rare c = r at *
  generalize b.part o = p at *
  have q1 : 100 - (r : Int) = ((100 - r : Nat) : Int) := by omega
  have q2 : (r : Int) * (100 - p) = ((r * (100 - p) : Nat) : Int) := by
    rw [Int.natCast_mul, show ((100 - p : Nat) : Int) = 100 - (p : Int) by omega]
  have q3 : (r : Int) * p = ((r * p : Nat) : Int) := by rw [Int.natCast_mul]
  have f1 : ∀ μ, F_fraction [.int (100 - (r : Int)), .int 100] μ = .ok (qD (mkRat (100 - r : Nat) 100)) μ := fun μ => by
    rw [q1]; exact fraction_ok d100
  have f2 : ∀ μ, F_fraction [.int ((r : Int) * (100 - p)), .int 10000] μ = .ok (qD (mkRat (r * (100 - p) : Nat) 10000)) μ := fun μ => by
    rw [q2]; exact fraction_ok d10000
  have f3 : ∀ μ, F_fraction [.int ((r : Int) * p), .int 10000] μ = .ok (qD (mkRat (r * p : Nat) 10000)) μ := fun μ => by
    rw [q3]; exact fraction_ok d10000
  have g1 : ∀ μ, F_with_kind [zD s, .int b.k, .tup [.int ((c : Int) + 1), .bl o]] μ = .ok (zD (pk s b.k (c + 1, o))) μ := fun μ => with_kind_ok (t := (c + 1, o))
  have g2 : ∀ μ, F_with_kind [zD s, .int b.k, .tup [.int 0, .bl true]] μ = .ok (zD (pk s b.k (0, true))) μ := fun μ => with_kind_ok (t := (0, true))
  have g3 : ∀ μ, F_with_kind [zD s, .int b.k, .tup [.int 0, .bl false]] μ = .ok (zD (pk s b.k (0, false))) μ := fun μ => with_kind_ok (t := (0, false))
  have hl : (b.bx.cs.map D.int).length = b.l.length + 1 := by rw [List.length_map, cs_len]
  have hpr : prD (c, o) = .tup [.int c, .bl o] := rfl
  have hbx : b.bx.enc = .tup [.int b.k, .int b.p, .int b.h, .tup (b.bx.cs.map D.int)] := rfl
  rw [hpr] at e2
  generalize (bs.map Bn.bx).map Bx.enc = L at e0 e1
  generalize b.bx.cs.map D.int = CS at *
  have hsz : ∀ n : Nat, n ≤ 3 → n ≤ sizeLine := fun n h => le_size (by omega)
  have hst : ∀ n : Nat, n ≤ 3 → n < sizeLine := fun n h => lt_size (by omega)
  have hs0 := hst 0 (by decide)
  have hs1 := hst 1 (by decide)
  have hs2 := hst 2 (by decide)
  have hlt : ∀ x : D, (μ ++ [some (MO.lst [])]).set μ.length (some (.lst [x])) = μ ++ [some (MO.lst [x])] := fun x => by simp
  have m1 : mulOk 100 100 = true := by decide
  have m2 : mulOk (r : Int) (100 - p) = true := mulOk_r (by omega)
  have m3 : mulOk (r : Int) p = true := mulOk_r (by omega)
  cases o with
  | false =>
    simp only [Bool.false_eq_true, if_false] at hpd
    subst hpd
    by_cases h1 : r < 100 <;> by_cases h2 : 0 < r <;> by_cases h3 : b.h < 100
    all_goals first
      | (exfalso; omega)
      | skip
    all_goals
      first
        | have z1 : (r : Int) < 100 := by omega
        | have z1 : ¬ (r : Int) < 100 := by omega
      first
        | have z2 : (0 : Int) < r := by omega
        | have z2 : ¬ (0 : Int) < r := by omega
      first
        | have z3 : (b.h : Int) < 100 := by omega
        | have z3 : ¬ (b.h : Int) < 100 := by omega
      simp [-ixD, -mmD, -eqD, -fldD, F_moves_of, fnB, e0, e1, e2, e3, e4, f1, f2, f3, g1, g2, g3, hl, hbx, h1, h2, h3, z1, z2, z3, hs0, hs1, hs2, hz2, hz3, m1, m2, m3, D.bel, bels, qD_bel, zD_bel]
  | true =>
    simp only [if_true] at hpd
    subst hpd
    have h3 : ¬ (100 : Nat) < 100 := by omega
    have m3' : mulOk (r : Int) 100 = true := m3
    have f3' : ∀ μ, F_fraction [.int ((r : Int) * 100), .int 10000] μ = .ok (qD (mkRat (r * 100 : Nat) 10000)) μ := f3
    by_cases h1 : r < 100 <;> by_cases h2 : 0 < r
    all_goals first
      | (exfalso; omega)
      | skip
    all_goals
      first
        | have z1 : (r : Int) < 100 := by omega
        | have z1 : ¬ (r : Int) < 100 := by omega
      first
        | have z2 : (0 : Int) < r := by omega
        | have z2 : ¬ (0 : Int) < r := by omega
      first
        | have z3 : (100 : Int) < 100 := by omega
        | have z3 : ¬ (100 : Int) < 100 := by omega
      simp [-ixD, -mmD, -eqD, -fldD, F_moves_of, fnB, e0, e1, e2, e3, e4, f1, f2, f3, g1, g2, g3, hl, hbx, h1, h2, h3, z1, z2, z3, hs0, hs1, hs2, hz2, hz3, m1, m2, m3, m3', f3', D.bel, bels, qD_bel, zD_bel]
end SZ
end
section
/-! SC: the law's moves are the program's. -/
namespace SZ
open PySem PySem.Spec PySem.W U
theorem law_moves_ok {bs : List Bn} {kp : List Int} {i : Nat} {b : Bn} {s : St} {μ : MH} (hb : bs[i]? = some b) (ok : b.Ok) : F__law_moves [dcN bs kp, zD s, .int i] μ = .ok (.lst ((mvs b s).map mvD)) μ := by
  have hz2 : 2 ≤ sizeLine := le_size (by decide)
  have hz3 : 3 ≤ sizeLine := le_size (by decide)
  have hz1 : 1 ≤ sizeLine := le_size (by decide)
  have e0 : ∀ μ, ixD (dcN bs kp) (.str "boxes") μ = .ok (.tup ((bs.map Bn.bx).map Bx.enc)) μ := fun μ => ix_boxes
  have e1 : ∀ μ, ixD (.tup ((bs.map Bn.bx).map Bx.enc)) (.int i) μ = .ok b.bx.enc μ := fun μ => ix_box hb
  have e2 : ∀ μ, ixD (zD s) (.int b.k) μ = .ok (prD (gk s b.k)) μ := fun μ => st_ix ok.k
  have i0 : ∀ μ, ixD (zD s) (.int 0) μ = .ok (prD s.1) μ := fun μ => st_ix0
  have i1 : ∀ μ, ixD (zD s) (.int 1) μ = .ok (prD s.2) μ := fun μ => st_ix1
  have zp : ∀ t, (if b.k = 0 then D.tup [prD t, prD s.2] else .tup [prD s.1, prD t]) = zD (pk s b.k t) := fun t => zD_put.symm
  have k0 : ∀ μ, eqD false (.int (b.k : Nat)) (.int 0) μ = .ok (.bl (decide (b.k = 0))) μ := fun μ => is0
  generalize hc : gk s b.k = t at *
  obtain ⟨c, o⟩ := t
  have e4 : (c < b.l.length + 1 ∧ ∀ μ, ixD (.tup (b.bx.cs.map D.int)) (.int (c : Nat)) μ = .ok (.int (b.rare c : Nat)) μ) ∨ (¬ c < b.l.length + 1 ∧ b.rare c = 100) := by
    by_cases h : c < b.l.length + 1
    · exact .inl ⟨h, fun μ => cs_at (by omega)⟩
    · exact .inr ⟨h, rare_big (by omega)⟩
  have hr := b.rare_le ok c
  have hp := b.part_le ok o
  have hpd : b.part o = if o then 100 else b.h := rfl
  rw [mvs_map, hc]
  simp only
  generalize b.rare c = r at *
  generalize b.part o = p at *
  have q1 : 100 * (100 - (r : Int)) = ((100 * (100 - r) : Nat) : Int) := by omega
  have q2 : (r : Int) * (100 - p) = ((r * (100 - p) : Nat) : Int) := by
    rw [Int.natCast_mul, show ((100 - p : Nat) : Int) = 100 - (p : Int) by omega]
  have q3 : (r : Int) * p = ((r * p : Nat) : Int) := by rw [Int.natCast_mul]
  have f1 : ∀ μ, F__law_fraction [.int (100 * (100 - (r : Int))), .int 10000] μ = .ok (qD (mkRat (100 - r : Nat) 100)) μ := fun μ => by
    rw [q1]
    have := law_fraction_ok (t := 100 * (100 - r)) (b := 10000) (μ := μ) d10000
    have e : mkRat ((100 * (100 - r) : Nat) : Int) 10000 = mkRat (100 - r : Nat) 100 := by
      have := Rat.mkRat_mul_left (n := ((100 - r : Nat) : Int)) (d := 100) (a := 100) (by decide)
      rw [← this]
      congr 1
    rw [e] at this
    exact this
  have f2 : ∀ μ, F__law_fraction [.int ((r : Int) * (100 - p)), .int 10000] μ = .ok (qD (mkRat (r * (100 - p) : Nat) 10000)) μ := fun μ => by
    rw [q2]; exact law_fraction_ok d10000
  have f3 : ∀ μ, F__law_fraction [.int ((r : Int) * p), .int 10000] μ = .ok (qD (mkRat (r * p : Nat) 10000)) μ := fun μ => by
    rw [q3]; exact law_fraction_ok d10000
  have hl : (b.bx.cs.map D.int).length = b.l.length + 1 := by rw [List.length_map, cs_len]
  have hpr : ∀ c o, prD (c, o) = .tup [.int c, .bl o] := fun _ _ => rfl
  have hbx : b.bx.enc = .tup [.int b.k, .int b.p, .int b.h, .tup (b.bx.cs.map D.int)] := rfl
  rw [hpr] at e2
  generalize (bs.map Bn.bx).map Bx.enc = L at e0 e1
  generalize b.bx.cs.map D.int = CS at *
  have zm : ∀ q : Nat, q ≤ 100 → ((0 : Int) < 100 * (100 - q) ↔ q < 100) := fun q h => by omega
  have zr : ((0 : Int) < r * (100 - p) ↔ 0 < r ∧ p < 100) := by
    rw [q2]
    constructor
    · intro h
      have h' : 0 < r * (100 - p) := by omega
      have := Nat.pos_of_mul_pos_left h'
      have := Nat.pos_of_mul_pos_right h'
      omega
    · rintro ⟨h1, h2⟩
      have := Nat.mul_pos h1 (show 0 < 100 - p by omega)
      omega
  have zw : ((0 : Int) < r * p ↔ 0 < r) := by
    rw [q3]
    constructor
    · intro h
      have h' : 0 < r * p := by omega
      exact Nat.pos_of_mul_pos_right h'
    · intro h1
      have := Nat.mul_pos h1 (show 0 < p by omega)
      omega
  have m2 : mulOk (r : Int) (100 - p) = true := mulOk_r (by omega)
  have m3 : mulOk (r : Int) p = true := mulOk_r (by omega)
  have m1 : mulOk 100 (100 - (r : Int)) = true := mulOk_r (by omega)
  have hs0 : 0 < sizeLine := lt_size (by decide)
  have hs1 : 1 < sizeLine := lt_size (by decide)
  have hs2 : 2 < sizeLine := lt_size (by decide)
  have zc : ((c : Int) < (b.l.length : Int) + 1 ↔ c < b.l.length + 1) := by omega
  have zpk : ∀ t, zD (pk s b.k t) = if b.k = 0 then D.tup [prD t, prD s.2] else .tup [prD s.1, prD t] := fun t => (zp t).symm
  have pb : ∀ t n, (prD t).bel n = true := fun t n => by simp [prD, D.bel, bels]
  simp only [zpk]
  have zm' := zm r hr
  have rest : ∀ c1 : Int, eIf (tVal (eB ltD (eVar 7) (eCall lenD (aCons (eVar 6) (aNil))))) (eB ixD (eVar 6) (eVar 7)) (eC (.int 100)) [some (dcN bs kp), some (zD s), some (.int i), some (.int b.k), some (.int b.p), some (.int b.h), some (.tup CS), some (.int c), some (.bl o), none, none, none, none, none, none, none, none] μ = .ok (.int r) μ := fun _ => by
    rcases e4 with ⟨h, e4⟩ | ⟨h, rfl⟩
    · have := zc.mpr h
      simp [-ixD, hl, this, e4]
    · have : ¬ ((c : Int) < (b.l.length : Int) + 1) := fun q => h (zc.mp q)
      simp [-ixD, hl, this]
  have rest' : eIf (tVal (eVar 8)) (eC (.int 100)) (eVar 5) [some (dcN bs kp), some (zD s), some (.int i), some (.int b.k), some (.int b.p), some (.int b.h), some (.tup CS), some (.int c), some (.bl o), some (.int r), none, none, none, none, none, none, none] μ = .ok (.int p) μ := by
    rw [hpd]
    cases o <;> simp
  unfold F__law_moves
  refine (fnB_run (by rfl)).trans ?_
  have h1 : sAsg (eB ixD (eB ixD (eVar 0) (eC (.str "boxes"))) (eVar 2)) (gTp 4 (gsCons (gNm 3) (gsCons (gNm 4) (gsCons (gNm 5) (gsCons (gNm 6) (gsNil)))))) ([dcN bs kp, zD s, .int i].map some ++ List.replicate (17 - 3) none) μ = .nx [some (dcN bs kp), some (zD s), some (.int i), some (.int b.k), some (.int b.p), some (.int b.h), some (.tup CS), none, none, none, none, none, none, none, none, none, none] μ := by simp [-ixD, e0, e1, hbx]
  have h2 : sAsg (eB ixD (eVar 1) (eVar 3)) (gTp 2 (gsCons (gNm 7) (gsCons (gNm 8) (gsNil)))) [some (dcN bs kp), some (zD s), some (.int i), some (.int b.k), some (.int b.p), some (.int b.h), some (.tup CS), none, none, none, none, none, none, none, none, none, none] μ = .nx [some (dcN bs kp), some (zD s), some (.int i), some (.int b.k), some (.int b.p), some (.int b.h), some (.tup CS), some (.int c), some (.bl o), none, none, none, none, none, none, none, none] μ := by simp [-ixD, e2]
  rw [seq_nx h1, seq_nx h2]
  rw [seq_nx (δ1 := [some (dcN bs kp), some (zD s), some (.int i), some (.int b.k), some (.int b.p), some (.int b.h), some (.tup CS), some (.int c), some (.bl o), some (.int r), none, none, none, none, none, none, none]) (μ1 := μ) (by unfold sAsg; rw [rest 0]; rfl)]
  rw [seq_nx (δ1 := [some (dcN bs kp), some (zD s), some (.int i), some (.int b.k), some (.int b.p), some (.int b.h), some (.tup CS), some (.int c), some (.bl o), some (.int r), some (.int p), none, none, none, none, none, none]) (μ1 := μ) (by unfold sAsg; rw [rest']; rfl)]
  clear rest rest' h1 h2
  have fin : ∀ (kt : Bool) (R1 R2 R3 : D), (∀ μ, eqD false (.int (b.k : Nat)) (.int 0) μ = .ok (.bl kt) μ) → R1 = (if kt = true then D.tup [prD (c + 1, o), prD s.2] else .tup [prD s.1, prD (c + 1, o)]) → R2 = (if kt = true then D.tup [prD (0, true), prD s.2] else .tup [prD s.1, prD (0, true)]) → R3 = (if kt = true then D.tup [prD (0, false), prD s.2] else .tup [prD s.1, prD (0, false)]) →
      trunc μ (sSeq (sAsg (eLstM (aNil)) (gNm 11)) (sSeq (sAsg (eLst (aCons (eTup (aCons (eC (.str "miss")) (aCons (eB mulD (eC (.int 100)) (eB subD (eC (.int 100)) (eVar 9))) (aCons (eTup (aCons (eB addD (eVar 7) (eC (.int 1))) (aCons (eVar 8) (aNil)))) (aNil))))) (aCons (eTup (aCons (eC (.str "other")) (aCons (eB mulD (eVar 9) (eB subD (eC (.int 100)) (eVar 10))) (aCons (eTup (aCons (eC (.int 0)) (aCons (eC (.bl true)) (aNil)))) (aNil))))) (aNil)))) (gNm 12)) (sSeq (L__law_moves_1) (sSeq (sRet (eFz (eVar 11))) (sNil)))) [some (dcN bs kp), some (zD s), some (.int i), some (.int b.k), some (.int b.p), some (.int b.h), some (.tup CS), some (.int c), some (.bl o), some (.int r), some (.int p), none, none, none, none, none, none] μ).fin =
        .ok (.lst ((if r < 100 then [D.tup [.str "miss", qD (mkRat (100 - r : Nat) 100), R1]] else []) ++ ((if 0 < r ∧ p < 100 then [D.tup [.str "other", qD (mkRat (r * (100 - p) : Nat) 10000), R2]] else []) ++ if 0 < r then [D.tup [.str "wished", qD (mkRat (r * p : Nat) 10000), R3]] else []))) μ := by
    rintro kt _ _ _ z0 rfl rfl rfl
    cases kt <;> by_cases y1 : r < 100 <;> by_cases y2 : 0 < r <;> by_cases y3 : p < 100
    all_goals first
      | (exfalso; omega)
      | skip
    all_goals
      have z1 := zm'
      have z2 := zr
      have z3 := zw
      simp only [y1, y2, y3, iff_true, iff_false, and_true, and_false, true_and, false_and] at z1 z2 z3
      simp [-ixD, -mmD, -eqD, sForL, L__law_moves_1, i0, i1, z0, f1, f2, f3, z1, z2, z3, y1, y2, y3, m1, m2, m3, hs0, hs1, hs2, hz1, hz2, hz3, D.bel, bels, qD_bel, pb, hpr]
  exact fin _ _ _ _ k0 (by simp) (by simp) (by simp)
end SZ
end
section
/-! SD: keys, dicts of one kind, loops by folds, whiles. -/
namespace SZ
open PySem PySem.Spec PySem.W U
/-! ### keys -/
structure KE (α : Type) where
  enc : α → D
  key : α → NestedKey
  nk : ∀ a, nk (enc a) = some (key a)
  ko : ∀ a, keyOf true (enc a) = some (key a)
  inj : ∀ a b, key a = key b → a = b
section
variable {α : Type} [DecidableEq α] (E : KE α)
theorem dlook_fn (f : α → D) (a : α) : ∀ l : List α, dlook (E.key a) (l.map E.enc) (l.map f) = if a ∈ l then some (f a) else none
  | [] => rfl
  | b :: l => by
    simp only [List.map_cons, dlook, E.nk, Option.some.injEq]
    by_cases h : b = a
    · subst h; simp
    · have h1 : ¬ E.key b = E.key a := fun q => h (E.inj _ _ q)
      have h2 : ¬ a = b := fun q => h q.symm
      rw [if_neg h1, dlook_fn f a l]
      simp [h2]
theorem dput_fn (f : α → D) {a : α} {l : List α} (h : a ∉ l) : dput (E.key a) (E.enc a) (f a) (l.map E.enc) (l.map f) = ((l ++ [a]).map E.enc, (l ++ [a]).map f) := by
  unfold dput
  rw [dlook_fn, if_neg h]
  simp
/-- association lists -/
def alk {β : Type} (a : α) : List (α × β) → Option β
  | [] => none
  | p :: l => if p.1 = a then some p.2 else alk a l
def aput {β : Type} (a : α) (b : β) (l : List (α × β)) : List (α × β) := if (alk a l).isSome then l.map (fun p => if p.1 = a then (p.1, b) else p) else l ++ [(a, b)]
theorem dlook_al {β : Type} (val : β → D) (a : α) : ∀ l : List (α × β), dlook (E.key a) (l.map fun p => E.enc p.1) (l.map fun p => val p.2) = (alk a l).map val
  | [] => rfl
  | p :: l => by
    simp only [List.map_cons, dlook, E.nk, Option.some.injEq, alk]
    by_cases h : p.1 = a
    · simp [h]
    · have h1 : ¬ E.key p.1 = E.key a := fun q => h (E.inj _ _ q)
      rw [if_neg h1, if_neg h, dlook_al val a l]
theorem dputv_al {β : Type} (val : β → D) (a : α) (b : β) : ∀ l : List (α × β), dputv (E.key a) (val b) (l.map fun p => E.enc p.1) (l.map fun p => val p.2) = (l.map fun p => if p.1 = a then (p.1, b) else p).map fun p => val p.2
  | [] => rfl
  | p :: l => by
    simp only [List.map_cons, dputv, E.nk, Option.some.injEq]
    rw [dputv_al val a b l]
    by_cases h : p.1 = a
    · simp [h]
    · have h1 : ¬ E.key p.1 = E.key a := fun q => h (E.inj _ _ q)
      rw [if_neg h1, if_neg h]
theorem dput_al {β : Type} (val : β → D) (a : α) (b : β) (l : List (α × β)) : dput (E.key a) (E.enc a) (val b) (l.map fun p => E.enc p.1) (l.map fun p => val p.2) = ((aput a b l).map (fun p => E.enc p.1), (aput a b l).map fun p => val p.2) := by
  unfold dput aput
  rw [dlook_al]
  cases h : alk a l with
  | none => simp
  | some x =>
    simp only [Option.map_some, Option.isSome_some, if_true]
    rw [dputv_al]
    congr 1
    rw [List.map_map]
    refine List.map_congr_left fun p _ => ?_
    simp only [Function.comp]
    split <;> rfl
end
def bK (b : Bool) : NestedKey := .num (if b then 1 else 0)
def pK (t : Nat × Bool) : NestedKey := .tup [.num t.1, bK t.2]
def sK (s : St) : NestedKey := .tup [pK s.1, pK s.2]
theorem bK_inj {a b : Bool} (h : bK a = bK b) : a = b := by cases a <;> cases b <;> simp [bK] at h <;> rfl
theorem pK_inj {a b : Nat × Bool} (h : pK a = pK b) : a = b := by
  simp [pK] at h
  exact Prod.ext (by omega) (bK_inj h.2)
theorem sK_inj {a b : St} (h : sK a = sK b) : a = b := by
  simp [sK] at h
  exact Prod.ext (pK_inj h.1) (pK_inj h.2)
theorem nk_prD (t : Nat × Bool) : nk (prD t) = some (pK t) := rfl
theorem nk_zD (s : St) : nk (zD s) = some (sK s) := by simp [zD, nk, nks, nk_prD, sK]
theorem pK_depth (t : Nat × Bool) : (pK t).depth ≤ 1 := by simp [pK, bK, NestedKey.depth, NestedKey.depthAll]
def stE : KE St where
  enc := zD
  key := sK
  nk := nk_zD
  ko s := by
    have h := nk_zD s
    have hd : (sK s).depth ≤ 8 := by simp [sK, pK, bK, NestedKey.depth, NestedKey.depthAll]
    have e : zD s = .tup [prD s.1, prD s.2] := rfl
    simp only [keyOf, e]
    rw [← e, h]
    simp [hd]
  inj _ _ := sK_inj
/-! ### loops -/
/-- a for loop over values of one kind, as a fold -/
theorem for_fold {α T : Type} {chk : MH → Bool} {g : GF} {f : SF} {enc : α → D} {R : T → Sl → MH → Prop} {step : T → α → T} (hc : ∀ t δ μ, R t δ μ → chk μ = true) :
    ∀ (l : List α), (∀ t a δ μ, a ∈ l → R t δ μ → ∃ δ1 μ1 δ2 μ2, g (enc a) δ μ = .ok δ1 μ1 ∧ (f δ1 μ1 = .nx δ2 μ2 ∨ f δ1 μ1 = .ct δ2 μ2) ∧ R (step t a) δ2 μ2) → ∀ (t : T) (δ : Sl) (μ : MH), R t δ μ →
      ∃ δ' μ', sForL chk g f (l.map enc) δ μ = .nx δ' μ' ∧ R (l.foldl step t) δ' μ'
  | [], _, t, δ, μ, h => ⟨δ, μ, by simp [sForL, hc t δ μ h], h⟩
  | a :: l, hs, t, δ, μ, h => by
    obtain ⟨δ1, μ1, δ2, μ2, e1, e2, h2⟩ := hs t a δ μ (by simp) h
    obtain ⟨δ', μ', e3, h3⟩ := for_fold hc l (fun t b δ μ hb => hs t b δ μ (List.mem_cons_of_mem _ hb)) (step t a) δ2 μ2 h2
    refine ⟨δ', μ', ?_, h3⟩
    simp only [List.map_cons, sForL, hc t δ μ h, if_true, e1]
    rcases e2 with e2 | e2 <;> rw [e2] <;> exact e3
/-- for x in range(len(l)), told by the things of l -/
theorem for_rl {α T : Type} {g : GF} {f : SF} {l : List α} {R : T → Sl → MH → Prop} {step : T → α → T}
    (hs : ∀ t (i : Nat) a δ μ, l[i]? = some a → R t δ μ → ∃ δ1 μ1 δ2 μ2, g (.int i) δ μ = .ok δ1 μ1 ∧ (f δ1 μ1 = .nx δ2 μ2 ∨ f δ1 μ1 = .ct δ2 μ2) ∧ R (step t a) δ2 μ2) (t : T) (δ : Sl) (μ : MH) (h : R t δ μ) :
    ∃ δ' μ', sForL (fun _ => true) g f (rngD 0 l.length) δ μ = .nx δ' μ' ∧ R (l.foldl step t) δ' μ' := by
  have e : rngD 0 l.length = l.zipIdx.map fun p : α × Nat => D.int p.2 := by
    refine List.ext_getElem? fun i => ?_
    simp only [rngD, List.getElem?_map, List.getElem?_zipIdx]
    by_cases hi : i < l.length
    · simp [hi]
    · simp [hi]
  have e2 : l.foldl step t = l.zipIdx.foldl (fun t p => step t p.1) t := by
    have : l.zipIdx.map (·.1) = l := by simp
    conv => lhs; rw [← this]
    rw [List.foldl_map]
  rw [e, e2]
  refine for_fold (fun _ _ _ _ => rfl) l.zipIdx (fun t p δ μ hp hr => ?_) t δ μ h
  have := List.mem_zipIdx_iff_getElem?.mp hp
  exact hs t p.2 p.1 δ μ this hr
theorem while_ind {t : TF} {f : SF} {P : Nat → Sl → MH → Prop} {Q : Sl → MH → Prop}
    (h : ∀ m δ μ, P m δ μ → (∃ μ1, t δ μ = .ok false μ1 ∧ Q δ μ1) ∨ ∃ μ1 δ2 μ2 m', t δ μ = .ok true μ1 ∧ (f δ μ1 = .nx δ2 μ2 ∨ f δ μ1 = .ct δ2 μ2) ∧ P m' δ2 μ2 ∧ m' < m) :
    ∀ (n m : Nat) (δ : Sl) (μ : MH), m < n → P m δ μ → ∃ δ' μ', sWh t f n δ μ = .nx δ' μ' ∧ Q δ' μ'
  | 0, m, _, _, hm, _ => by omega
  | n + 1, m, δ, μ, hm, hp => by
    rcases h m δ μ hp with ⟨μ1, e, q⟩ | ⟨μ1, δ2, μ2, m', e, e2, p, hm'⟩
    · exact ⟨δ, μ1, by simp [sWh, e], q⟩
    · obtain ⟨δ', μ', e3, q⟩ := while_ind h n m' δ2 μ2 (by omega) p
      refine ⟨δ', μ', ?_, q⟩
      simp only [sWh, e, R.to, if_true]
      rcases e2 with e2 | e2 <;> rw [e2] <;> exact e3
/-! ### readings -/
theorem pys_of {α : Type} {enc : α → D} {p : α → PyData} (h : ∀ a, py (enc a) = some (p a)) : ∀ l : List α, pys (l.map enc) = some (l.map p)
  | [] => rfl
  | a :: l => by simp [pys, h, pys_of h l]
def prP (t : Nat × Bool) : PyData := .tuple [.int t.1, .bool t.2]
def stP (s : St) : PyData := .tuple [prP s.1, prP s.2]
theorem py_zD (s : St) : py (zD s) = some (stP s) := rfl
theorem eqv_pair {a b : PyData} {xs ys : List PyData} : PyData.eqvAll (a :: xs) (b :: ys) = (PyData.eqv a b && PyData.eqvAll xs ys) := rfl
theorem eqv_prP (s t : Nat × Bool) : PyData.eqv (prP s) (prP t) = decide (s = t) := by
  obtain ⟨a, o⟩ := s
  obtain ⟨b, q⟩ := t
  by_cases h : a = b
  · subst h
    cases o <;> cases q <;> simp [prP, PyData.eqv, PyData.eqvAll]
  · have : ¬ ((a : Int) = b) := by omega
    simp [prP, PyData.eqv, PyData.eqvAll, h, this]
theorem eqv_stP (s t : St) : PyData.eqv (stP s) (stP t) = decide (s = t) := by
  obtain ⟨a, b⟩ := s
  obtain ⟨c, d⟩ := t
  have : PyData.eqv (stP (a, b)) (stP (c, d)) = (PyData.eqv (prP a) (prP c) && (PyData.eqv (prP b) (prP d) && true)) := by
    simp only [stP, PyData.eqv, PyData.eqvAll]
  rw [this, eqv_prP, eqv_prP]
  by_cases h : a = c <;> by_cases h2 : b = d <;> simp [h, h2]
theorem dep_stP (s : St) : (stP s).depth = 2 := by simp [stP, prP, PyData.depth, PyData.depthAll]
/-- != [] of a list that may change -/
theorem ne_nil {n : Nat} {l : List D} {ps : List PyData} {μ : MH} (h : μ[n]? = some (some (.lst l))) (hp : pys l = some ps) : eqD true (.ref n) (.lst []) μ = .ok (.bl (!l.isEmpty)) μ := by
  have e1 : pyM μ (.ref n) = some (.list ps) := by simp [pyM, h, hp]
  rw [eqD_py e1 (q := .list []) rfl (by simp [PyData.depth, PyData.depthAll])]
  cases l with
  | nil => cases hp; rfl
  | cons a l =>
    simp only [pys] at hp
    split at hp
    · cases hp; rfl
    · cases hp
theorem addL2 : ∀ (ts f w : List St), ∃ n, addL f ts = f ++ n ∧ ts.foldl (fun (q : List St × List St) t => if t ∈ q.1 then q else (q.1 ++ [t], q.2 ++ [t])) (f, w) = (f ++ n, w ++ n)
  | [], f, w => ⟨[], by simp [addL], by simp⟩
  | t :: ts, f, w => by
    rw [addL_cons, List.foldl_cons]
    by_cases h : t ∈ f
    · simp only [if_pos h]
      exact addL2 ts f w
    · simp only [if_neg h]
      obtain ⟨n, e1, e2⟩ := addL2 ts (f ++ [t]) (w ++ [t])
      exact ⟨t :: n, by rw [e1]; simp, by rw [e2]; simp⟩
/-- two objects behind the heap -/
theorem two_get0 {μ : MH} {a b : Option MO} : (μ ++ [a, b])[μ.length]? = some a := by simp
theorem two_get1 {μ : MH} {a b : Option MO} : (μ ++ [a, b])[μ.length + 1]? = some b := by simp
theorem two_set0 {μ : MH} {a b c : Option MO} : (μ ++ [a, b]).set μ.length c = μ ++ [c, b] := by simp
theorem two_set1 {μ : MH} {a b c : Option MO} : (μ ++ [a, b]).set (μ.length + 1) c = μ ++ [a, c] := by
  rw [List.set_append, if_neg (by omega)]
  simp
end SZ
end
section
/-! SE: the program's standings. -/
namespace SZ
open PySem PySem.Spec PySem.W U
def tt {α : Type} : α → D := fun _ => .bl true
/-- a dict of standings -/
def dS (f : List St) : MO := .dic true (f.map zD) (f.map tt)
theorem in_dS {n : Nat} {f : List St} {s : St} {neg : Bool} {μ : MH} (h : μ[n]? = some (some (dS f))) : inD neg (zD s) (.ref n) μ = .ok (.bl (neg != decide (s ∈ f))) μ := by
  have e := dlook_fn stE tt s f
  have ko := stE.ko s
  change keyOf true (zD s) = some (sK s) at ko
  change dlook (sK s) (f.map zD) (f.map tt) = _ at e
  simp only [inD, seqOf, dicOf, h, dS, ko, e]
  by_cases q : s ∈ f <;> cases neg <;> simp [q]
theorem put_dS {n : Nat} {f : List St} {s : St} {μ : MH} (h : μ[n]? = some (some (dS f))) (hs : s ∉ f) (hl : f.length < sizeLine) : setD (.ref n) (zD s) (.bl true) μ = some (μ.set n (some (dS (f ++ [s])))) := by
  have e := dput_fn stE tt hs
  have ko := stE.ko s
  change keyOf true (zD s) = some (sK s) at ko
  change dput (sK s) (zD s) (.bl true) (f.map zD) (f.map tt) = ((f ++ [s]).map zD, (f ++ [s]).map tt) at e
  simp only [setD, h, dS, ko, e, List.length_map, hl, if_true]
abbrev stp (q : List St × List St) (t : St) : List St × List St := if t ∈ q.1 then q else (q.1 ++ [t], q.2 ++ [t])
/-- the state of the search -/
def SR0 (book : D) (μ : MH) (i : Nat) (s : St) (q : List St × List St) (δ : Sl) (ν : MH) : Prop := (∀ t ∈ q.1, InB t) ∧ q.1.Nodup ∧ q.2.length ≤ q.1.length ∧
  ∃ o5 o6 o7, δ = [some book, some (.ref μ.length), some (.ref (μ.length + 1)), some (zD s), some (.int i), o5, o6, o7] ∧ ν = μ ++ [some (dS q.1), some (.lst (q.2.map zD))]
theorem st_loop1 {bs : List Bn} {kp : List Int} {i : Nat} {b : Bn} {s : St} {μ : MH} (hb : bs[i]? = some b) (ok : b.Ok) (hs : InB s) {q : List St × List St} {δ : Sl} {ν : MH} (h : SR0 (bkN bs kp) μ i s q δ ν) :
    ∃ δ' ν', L_standings_of_1 δ ν = .nx δ' ν' ∧ SR0 (bkN bs kp) μ i s ((nx1 false b s).foldl stp q) δ' ν' := by
  have hz : ∀ n, n ≤ 1000 → n < sizeLine := fun n h => lt_size h
  have hi : ∃ l, iSq (eCall F_moves_of (aCons (eVar 0) (aCons (eVar 3) (aCons (eVar 4) (aNil))))) δ ν = .ok (fun μ => sameL μ (.lst ((mvs b s).map mvD)) ((mvs b s).map mvD), l) ν ∧ l = (mvs b s).map mvD := by
    obtain ⟨h1, h2, h3, o5, o6, o7, rfl, rfl⟩ := h
    have e := moves_of_ok (kp := kp) (s := s) (μ := μ ++ [some (dS q.1), some (.lst (q.2.map zD))]) hb ok
    exact ⟨_, by simp [e], rfl⟩
  obtain ⟨l, e, rfl⟩ := hi
  unfold L_standings_of_1 sFor
  rw [e]
  simp only [R.to]
  have ef : (nx1 false b s).foldl stp q = (mvs b s).foldl (fun q m => stp q m.2.2) q := by
    unfold nx1
    rw [List.foldl_map]
    congr 1
    exact List.filter_eq_self.mpr (by simp)
  rw [ef]
  refine for_fold (enc := mvD) (R := SR0 (bkN bs kp) μ i s) (fun t δ ν h => by simp) (mvs b s) (fun t m δ ν hm hr => ?_) q δ ν h
  obtain ⟨h1, h2, h3, o5, o6, o7, rfl, rfl⟩ := hr
  obtain ⟨w, p, u⟩ := m
  have hu := mvs_in ok hs hm
  simp only at hu
  have hlen := bound h2 h1
  have e1 := in_dS (n := μ.length) (f := t.1) (s := u) (neg := true) (μ := μ ++ [some (dS t.1), some (.lst (t.2.map zD))]) (by simp)
  let δ2 : Sl := [some (bkN bs kp), some (.ref μ.length), some (.ref (μ.length + 1)), some (zD s), some (.int i), some (.str (wS w)), some (qD p), some (zD u)]
  by_cases q : u ∈ t.1
  · simp only [q, decide_true] at e1
    refine ⟨δ2, μ ++ [some (dS t.1), some (.lst (t.2.map zD))], δ2, μ ++ [some (dS t.1), some (.lst (t.2.map zD))], by simp [mvD, δ2], .inl (by simp [-inD, e1, δ2]), ?_⟩
    simp only [stp, q, if_true]
    exact ⟨h1, h2, h3, _, _, _, rfl, rfl⟩
  · simp only [q, decide_false] at e1
    have e2 := put_dS (n := μ.length) (f := t.1) (s := u) (μ := μ ++ [some (dS t.1), some (.lst (t.2.map zD))]) (by simp) q (hz _ (by omega))
    rw [two_set0] at e2
    have e3 : t.2.length < sizeLine := hz _ (by omega)
    refine ⟨δ2, μ ++ [some (dS t.1), some (.lst (t.2.map zD))], δ2, μ ++ [some (dS (t.1 ++ [u])), some (.lst (t.2.map zD ++ [zD u]))], by simp [mvD, δ2], .inl (by simp [-inD, -setD, e1, e2, e3, two_set1, δ2]), ?_⟩
    simp only [stp, q, if_false]
    refine ⟨fun v hv => ?_, List.nodup_append.mpr ⟨h2, by simp, fun a ha b hb => ?_⟩, by simp; exact h3, _, _, _, rfl, by simp⟩
    · rcases List.mem_append.mp hv with hv | hv
      · exact h1 v hv
      · simp at hv; subst hv; exact hu
    · simp at hb; subst hb; rintro rfl; exact q ha
theorem tail_nx {f : SF} {δ δ' : Sl} {μ μ' : MH} (h : f δ μ = .nx δ' μ') : sSeq f sNil δ μ = .nx δ' μ' := by simp [h]
theorem foldl_nxt {α : Type} {step : α → St → α} {bs : List Bn} {op : Bool} {s : St} (q : α) : (nxt bs op s).foldl step q = bs.foldl (fun q b => (nx1 op b s).foldl step q) q := by
  unfold nxt
  induction bs generalizing q with
  | nil => rfl
  | cons b r ih => simp only [List.flatMap_cons, List.foldl_append, List.foldl_cons]; exact ih _
theorem st_loop2 {bs : List Bn} {kp : List Int} {s : St} {μ : MH} (ok : OkB bs) (hs : InB s) {f w : List St} {o4 o5 o6 o7 : Option D} (hf : ∀ t ∈ f, InB t) (hn : f.Nodup) (hw : w.length ≤ f.length) :
    ∃ o4' o5' o6' o7', L_standings_of_2 [some (bkN bs kp), some (.ref μ.length), some (.ref (μ.length + 1)), some (zD s), o4, o5, o6, o7] (μ ++ [some (dS f), some (.lst (w.map zD))]) =
      .nx [some (bkN bs kp), some (.ref μ.length), some (.ref (μ.length + 1)), some (zD s), o4', o5', o6', o7'] (μ ++ [some (dS ((nxt bs false s).foldl stp (f, w)).1), some (.lst (((nxt bs false s).foldl stp (f, w)).2.map zD))]) := by
  have e0 : ∀ μ, fldD ct "told" (bkN bs kp) μ = .ok (.tup ((bs.map Bn.bx).map Bx.enc)) μ := fun μ => fld_told
  have hl : ((bs.map Bn.bx).map Bx.enc).length = bs.length := by simp
  generalize (bs.map Bn.bx).map Bx.enc = L at e0 hl
  unfold L_standings_of_2 sFor
  rw [iRn1_ok (n := bs.length) (μ' := μ ++ [some (dS f), some (.lst (w.map zD))]) (by simp [-fldD, e0, hl]) (by have := ok.1; omega)]
  simp only [R.to]
  have := for_rl (l := bs) (g := gNm 4) (f := sSeq L_standings_of_1 sNil) (step := fun q b => (nx1 false b s).foldl stp q)
    (R := fun q δ ν => ((∀ t ∈ q.1, InB t) ∧ q.1.Nodup ∧ q.2.length ≤ q.1.length) ∧ ∃ o4 o5 o6 o7, δ = [some (bkN bs kp), some (.ref μ.length), some (.ref (μ.length + 1)), some (zD s), o4, o5, o6, o7] ∧ ν = μ ++ [some (dS q.1), some (.lst (q.2.map zD))])
    (fun q i b δ ν hb hr => by
      obtain ⟨⟨h1, h2, h3⟩, o4, o5, o6, o7, rfl, rfl⟩ := hr
      have hr : SR0 (bkN bs kp) μ i s q [some (bkN bs kp), some (.ref μ.length), some (.ref (μ.length + 1)), some (zD s), some (.int i), o5, o6, o7] (μ ++ [some (dS q.1), some (.lst (q.2.map zD))]) := ⟨h1, h2, h3, _, _, _, rfl, rfl⟩
      obtain ⟨δ', ν', e, k1, k2, k3, p5, p6, p7, rfl, rfl⟩ := st_loop1 hb (ok.2 b (List.mem_of_getElem? hb)) hs hr
      exact ⟨[some (bkN bs kp), some (.ref μ.length), some (.ref (μ.length + 1)), some (zD s), some (.int i), o5, o6, o7], _, _, _, rfl, .inl (tail_nx e), ⟨k1, k2, k3⟩, _, _, _, _, rfl, rfl⟩) (f, w) [some (bkN bs kp), some (.ref μ.length), some (.ref (μ.length + 1)), some (zD s), o4, o5, o6, o7] (μ ++ [some (dS f), some (.lst (w.map zD))]) ⟨⟨hf, hn, hw⟩, o4, o5, o6, o7, rfl, rfl⟩
  obtain ⟨δ', ν', e, _, p4, p5, p6, p7, rfl, rfl⟩ := this
  refine ⟨p4, p5, p6, p7, ?_⟩
  rw [foldl_nxt]
  exact e
theorem fst_in : InB fst0 := by simp [InB, fst0]
theorem st_loop3 {bs : List Bn} {kp : List Int} {μ : MH} (ok : OkB bs) : ∃ f o3 o4 o5 o6 o7, f.Nodup ∧ (∀ s, s ∈ f ↔ Rch bs false fst0 s) ∧ L_standings_of_3 [some (bkN bs kp), some (.ref μ.length), some (.ref (μ.length + 1)), none, none, none, none, none] (μ ++ [some (dS [fst0]), some (.lst ([fst0].map zD))]) =
    .nx [some (bkN bs kp), some (.ref μ.length), some (.ref (μ.length + 1)), o3, o4, o5, o6, o7] (μ ++ [some (dS f), some (.lst [])]) := by
  unfold L_standings_of_3 sWhile
  have := while_ind (t := tVal (eB (eqD true) (eVar 2) (eLst (aNil)))) (f := sSeq (sAsg (eMt0 popD (eVar 2)) (gNm 3)) (sSeq (L_standings_of_2) (sNil)))
    (P := fun m δ ν => ∃ f w o3 o4 o5 o6 o7, Dfs bs fst0 f w ∧ 2 * (100 - f.length) + w.length = m ∧ w.length ≤ f.length ∧ δ = [some (bkN bs kp), some (.ref μ.length), some (.ref (μ.length + 1)), o3, o4, o5, o6, o7] ∧ ν = μ ++ [some (dS f), some (.lst (w.map zD))])
    (Q := fun δ ν => ∃ f o3 o4 o5 o6 o7, Dfs bs fst0 f [] ∧ δ = [some (bkN bs kp), some (.ref μ.length), some (.ref (μ.length + 1)), o3, o4, o5, o6, o7] ∧ ν = μ ++ [some (dS f), some (.lst [])])
    (fun m δ ν hp => by
      obtain ⟨f, w, o3, o4, o5, o6, o7, hd, hm, hwf, rfl, rfl⟩ := hp
      have en := ne_nil (n := μ.length + 1) (l := w.map zD) (ps := w.map stP) (μ := μ ++ [some (dS f), some (.lst (w.map zD))]) (by simp) (pys_of py_zD w)
      rcases List.eq_nil_or_concat w with rfl | ⟨w', s, rfl⟩
      · left
        exact ⟨μ ++ [some (dS f), some (.lst [])], by simp [-eqD] at en; simp [-eqD, en], f, o3, o4, o5, o6, o7, hd, rfl, rfl⟩
      · right
        rw [List.concat_eq_append] at *
        have hs : s ∈ f := hd.hw s (by simp)
        have hin : ∀ t ∈ f, InB t := fun t ht => (hd.r t ht).inb ok fst_in
        obtain ⟨n, e1, e2⟩ := addL2 (nxt bs false s) f w'
        obtain ⟨p4, p5, p6, p7, e⟩ := st_loop2 (kp := kp) (μ := μ) (o4 := o4) (o5 := o5) (o6 := o6) (o7 := o7) ok (hin s hs) (f := f) (w := w') hin hd.nd (by simp at hwf; omega)
        have e2' : (nxt bs false s).foldl stp (f, w') = (f ++ n, w' ++ n) := e2
        rw [e2'] at e
        have hd2 := hd.turn e1
        have hl2 := hd2.len ok fst_in
        simp only [List.map_append, List.map_cons, List.map_nil] at e
        refine ⟨μ ++ [some (dS f), some (.lst ((w' ++ [s]).map zD))], [some (bkN bs kp), some (.ref μ.length), some (.ref (μ.length + 1)), some (zD s), p4, p5, p6, p7], μ ++ [some (dS (f ++ n)), some (.lst ((w' ++ n).map zD))], _, ?_, .inl ?_, ⟨f ++ n, w' ++ n, _, _, _, _, _, hd2, rfl, ?_, rfl, rfl⟩, ?_⟩
        · simp [-eqD] at en
          simp [-eqD, en]
        · simp [two_set1, e]
        · simp at hwf ⊢; omega
        · simp at hm hl2 ⊢; omega) 1000 (2 * (100 - 1) + 1) [some (bkN bs kp), some (.ref μ.length), some (.ref (μ.length + 1)), none, none, none, none, none] (μ ++ [some (dS [fst0]), some (.lst ([fst0].map zD))]) (by decide) ⟨[fst0], [fst0], _, _, _, _, _, Dfs.begin bs fst0, rfl, by simp, rfl, rfl⟩
  obtain ⟨δ', ν', e, f, o3, o4, o5, o6, o7, hd, rfl, rfl⟩ := this
  exact ⟨f, o3, o4, o5, o6, o7, hd.nd, hd.all, e⟩
theorem zD_fst : zD fst0 = C_FIRST := rfl
theorem bels_map {α : Type} {enc : α → D} {n : Nat} (h : ∀ a, (enc a).bel n = true) (l : List α) : bels n (l.map enc) = true := bels_all fun d hd => by
  obtain ⟨a, _, rfl⟩ := List.mem_map.mp hd
  exact h a
theorem standings_of_ok {bs : List Bn} (kp : List Int) (ok : OkB bs) (μ : MH) : ∃ f : List St, F_standings_of [bkN bs kp] μ = .ok (.dic true (f.map zD) (f.map tt)) μ ∧ f.Nodup ∧ (∀ s, s ∈ f ↔ Rch bs false fst0 s) := by
  obtain ⟨f, o3, o4, o5, o6, o7, h1, h2, e⟩ := st_loop3 (kp := kp) (μ := μ) ok
  refine ⟨f, ?_, h1, h2⟩
  have ko := stE.ko fst0
  change keyOf true (zD fst0) = some (sK fst0) at ko
  rw [zD_fst] at ko
  have e' : L_standings_of_3 [some (bkN bs kp), some (.ref μ.length), some (.ref (μ.length + 1)), none, none, none, none, none] (μ ++ [some (.dic true [C_FIRST] [.bl true]), some (.lst [C_FIRST])]) = _ := e
  have hb1 : bels μ.length (f.map zD) = true := bels_map (fun _ => zD_bel) f
  have hb2 : bels μ.length (f.map (tt : St → D)) = true := bels_map (fun _ => rfl) f
  have hz1 : 1 ≤ sizeLine := le_size (by decide)
  unfold C_FIRST at ko e'
  have hdS : dS f = .dic true (f.map zD) (f.map tt) := rfl
  rw [hdS] at e'
  generalize f.map zD = A at *
  generalize f.map (tt : St → D) = B at *
  simp [-keyOf, F_standings_of, fnB, ko, e', hz1, D.bel, hb1, hb2]
end SZ
end
section
/-! SF: the law's standings. -/
namespace SZ
open PySem PySem.Spec PySem.W U
theorem wS_isW {w : W3} {μ : MH} : eqD false (.str (wS w)) (.str "wished") μ = .ok (.bl (isW w)) μ := by
  rw [U.str_eq]
  cases w <;> rfl
theorem fold_nx1 {op : Bool} {b : Bn} {s : St} {f : List St} : addL f (nx1 op b s) = (mvs b s).foldl (fun f m => if m.2.2 ∉ f ∧ (op && isW m.1) = false then f ++ [m.2.2] else f) f := by
  unfold nx1 addL
  rw [List.foldl_map, List.foldl_filter]
  congr 1
  funext f m
  by_cases h : m.2.2 ∈ f <;> cases h2 : (op && isW m.1) <;> simp [h]
def AR (d a : D) (op : Bool) (μ : MH) (k : Nat) (i : Nat) (f : List St) (δ : Sl) (ν : MH) : Prop := (∀ t ∈ f, InB t) ∧ f.Nodup ∧
  ∃ o7 o8 o9, δ = [some d, some a, some (.bl op), some (.ref μ.length), some (.ref (μ.length + 1)), some (.int k), some (.int i), o7, o8, o9] ∧ ν = μ ++ [some (.lst (f.map zD)), some (dS f)]
theorem la_loop1 {bs : List Bn} {kp : List Int} {i k : Nat} {b : Bn} {s : St} {a : D} {op : Bool} {μ : MH} (hb : bs[i]? = some b) (ok : b.Ok) (hs : InB s) {f : List St} {δ : Sl} {ν : MH} (hk : f[k]? = some s) (h : AR (dcN bs kp) a op μ k i f δ ν) :
    ∃ δ' ν', L__law_all_1 δ ν = .nx δ' ν' ∧ AR (dcN bs kp) a op μ k i (addL f (nx1 op b s)) δ' ν' := by
  have hz : ∀ n, n ≤ 1000 → n < sizeLine := fun n h => lt_size h
  have hi : ∃ l, iSq (eCall F__law_moves (aCons (eVar 0) (aCons (eB ixD (eVar 3) (eVar 5)) (aCons (eVar 6) (aNil))))) δ ν = .ok (fun μ => sameL μ (.lst ((mvs b s).map mvD)) ((mvs b s).map mvD), l) ν ∧ l = (mvs b s).map mvD := by
    obtain ⟨h1, h2, o7, o8, o9, rfl, rfl⟩ := h
    have e := law_moves_ok (kp := kp) (s := s) (μ := μ ++ [some (.lst (f.map zD)), some (dS f)]) hb ok
    have e1 : ixD (.ref μ.length) (.int k) (μ ++ [some (.lst (f.map zD)), some (dS f)]) = .ok (zD s) (μ ++ [some (.lst (f.map zD)), some (dS f)]) := by simp [hk]
    exact ⟨_, by simp [-ixD, e, e1], rfl⟩
  obtain ⟨l, e, rfl⟩ := hi
  unfold L__law_all_1 sFor
  rw [e]
  simp only [R.to]
  rw [fold_nx1]
  refine for_fold (enc := mvD) (R := AR (dcN bs kp) a op μ k i) (fun t δ ν h => by simp) (mvs b s) (fun t m δ ν hm hr => ?_) f δ ν h
  obtain ⟨h1, h2, o7, o8, o9, rfl, rfl⟩ := hr
  obtain ⟨w, p, u⟩ := m
  have hu := mvs_in ok hs hm
  simp only at hu
  have hlen := bound h2 h1
  have e1 := in_dS (n := μ.length + 1) (f := t) (s := u) (neg := true) (μ := μ ++ [some (.lst (t.map zD)), some (dS t)]) (by simp)
  have ew : ∀ μ, eqD false (.str (wS w)) (.str "wished") μ = .ok (.bl (isW w)) μ := fun μ => wS_isW
  let δ2 : Sl := [some (dcN bs kp), some a, some (.bl op), some (.ref μ.length), some (.ref (μ.length + 1)), some (.int k), some (.int i), some (.str (wS w)), some (qD p), some (zD u)]
  by_cases q : u ∈ t
  · simp only [q, decide_true] at e1
    refine ⟨δ2, μ ++ [some (.lst (t.map zD)), some (dS t)], δ2, μ ++ [some (.lst (t.map zD)), some (dS t)], by simp [mvD, δ2], .inl (by simp [-inD, e1, δ2]), ?_⟩
    simp only [q, not_true, false_and, if_false]
    exact ⟨h1, h2, _, _, _, rfl, rfl⟩
  · simp only [q, decide_false] at e1
    cases hw : (op && isW w) with
    | true =>
      obtain ⟨rfl, hw2⟩ : op = true ∧ isW w = true := by simpa using hw
      rw [hw2] at ew
      refine ⟨δ2, μ ++ [some (.lst (t.map zD)), some (dS t)], δ2, μ ++ [some (.lst (t.map zD)), some (dS t)], by simp [mvD, δ2], .inl (by simp [-inD, -eqD, e1, ew, δ2]), ?_⟩
      simp only [Bool.true_eq_false, and_false, if_false]
      exact ⟨h1, h2, _, _, _, rfl, rfl⟩
    | false =>
      have e2 := put_dS (n := μ.length + 1) (f := t) (s := u) (μ := μ ++ [some (.lst (t.map zD)), some (dS t)]) (by simp) q (hz _ (by omega))
      rw [two_set1] at e2
      have e3 : t.length < sizeLine := hz _ (by omega)
      refine ⟨δ2, μ ++ [some (.lst (t.map zD)), some (dS t)], δ2, μ ++ [some (.lst (t.map zD ++ [zD u])), some (dS (t ++ [u]))], by simp [mvD, δ2], .inl ?_, ?_⟩
      · have hc : op = false ∨ (op = true ∧ isW w = false) := by cases op <;> simp_all
        rcases hc with rfl | ⟨rfl, hw2⟩
        · simp [-inD, -setD, -eqD, e1, e2, e3, δ2]
        · rw [hw2] at ew
          simp [-inD, -setD, -eqD, e1, ew, e2, e3, δ2]
      · simp only [q, not_false_eq_true, true_and, if_true]
        refine ⟨fun v hv => ?_, List.nodup_append.mpr ⟨h2, by simp, fun a ha b hb => ?_⟩, _, _, _, rfl, by simp⟩
        · rcases List.mem_append.mp hv with hv | hv
          · exact h1 v hv
          · simp at hv; subst hv; exact hu
        · simp at hb; subst hb; rintro rfl; exact q ha
theorem addL_get {f ts : List St} {k : Nat} {s : St} (h : f[k]? = some s) : (addL f ts)[k]? = some s := by
  obtain ⟨n, e, _⟩ := addL_pre ts f
  rw [e, List.getElem?_append_left (List.getElem?_eq_some_iff.mp h).1]
  exact h
theorem la_loop2 {bs : List Bn} {kp : List Int} {k : Nat} {s : St} {a : D} {op : Bool} {μ : MH} (ok : OkB bs) (hs : InB s) {f : List St} {o6 o7 o8 o9 : Option D} (hk : f[k]? = some s) (hf : ∀ t ∈ f, InB t) (hn : f.Nodup) :
    ∃ o6' o7' o8' o9', L__law_all_2 [some (dcN bs kp), some a, some (.bl op), some (.ref μ.length), some (.ref (μ.length + 1)), some (.int k), o6, o7, o8, o9] (μ ++ [some (.lst (f.map zD)), some (dS f)]) =
      .nx [some (dcN bs kp), some a, some (.bl op), some (.ref μ.length), some (.ref (μ.length + 1)), some (.int k), o6', o7', o8', o9'] (μ ++ [some (.lst ((addL f (nxt bs op s)).map zD)), some (dS (addL f (nxt bs op s)))]) := by
  have e0 : ∀ μ, ixD (dcN bs kp) (.str "boxes") μ = .ok (.tup ((bs.map Bn.bx).map Bx.enc)) μ := fun μ => ix_boxes
  have hl : ((bs.map Bn.bx).map Bx.enc).length = bs.length := by simp
  generalize (bs.map Bn.bx).map Bx.enc = L at e0 hl
  unfold L__law_all_2 sFor
  rw [iRn1_ok (n := bs.length) (μ' := μ ++ [some (.lst (f.map zD)), some (dS f)]) (by simp [-ixD, e0, hl]) (by have := ok.1; omega)]
  simp only [R.to]
  have := for_rl (l := bs) (g := gNm 6) (f := sSeq L__law_all_1 sNil) (step := fun f b => addL f (nx1 op b s))
    (R := fun f δ ν => (f[k]? = some s ∧ (∀ t ∈ f, InB t) ∧ f.Nodup) ∧ ∃ o6 o7 o8 o9, δ = [some (dcN bs kp), some a, some (.bl op), some (.ref μ.length), some (.ref (μ.length + 1)), some (.int k), o6, o7, o8, o9] ∧ ν = μ ++ [some (.lst (f.map zD)), some (dS f)])
    (fun f i b δ ν hb hr => by
      obtain ⟨⟨h0, h1, h2⟩, o6, o7, o8, o9, rfl, rfl⟩ := hr
      have hr : AR (dcN bs kp) a op μ k i f [some (dcN bs kp), some a, some (.bl op), some (.ref μ.length), some (.ref (μ.length + 1)), some (.int k), some (.int i), o7, o8, o9] (μ ++ [some (.lst (f.map zD)), some (dS f)]) := ⟨h1, h2, _, _, _, rfl, rfl⟩
      obtain ⟨δ', ν', e, k1, k2, p7, p8, p9, rfl, rfl⟩ := la_loop1 hb (ok.2 b (List.mem_of_getElem? hb)) hs h0 hr
      exact ⟨[some (dcN bs kp), some a, some (.bl op), some (.ref μ.length), some (.ref (μ.length + 1)), some (.int k), some (.int i), o7, o8, o9], _, _, _, rfl, .inl (tail_nx e), ⟨addL_get h0, k1, k2⟩, _, _, _, _, rfl, rfl⟩) f [some (dcN bs kp), some a, some (.bl op), some (.ref μ.length), some (.ref (μ.length + 1)), some (.int k), o6, o7, o8, o9] (μ ++ [some (.lst (f.map zD)), some (dS f)]) ⟨⟨hk, hf, hn⟩, o6, o7, o8, o9, rfl, rfl⟩
  obtain ⟨δ', ν', e, _, p6, p7, p8, p9, rfl, rfl⟩ := this
  refine ⟨p6, p7, p8, p9, ?_⟩
  have ef : addL f (nxt bs op s) = bs.foldl (fun f b => addL f (nx1 op b s)) f := foldl_nxt f
  rw [ef]
  exact e
theorem la_loop3 {bs : List Bn} {kp : List Int} {a : D} {s0 : St} {op : Bool} {μ : MH} (ok : OkB bs) (h0 : InB s0) : ∃ f k o6 o7 o8 o9, f.Nodup ∧ (∀ s, s ∈ f ↔ Rch bs op s0 s) ∧ L__law_all_3 [some (dcN bs kp), some a, some (.bl op), some (.ref μ.length), some (.ref (μ.length + 1)), some (.int 0), none, none, none, none] (μ ++ [some (.lst ([s0].map zD)), some (dS [s0])]) =
    .nx [some (dcN bs kp), some a, some (.bl op), some (.ref μ.length), some (.ref (μ.length + 1)), some (.int (k : Nat)), o6, o7, o8, o9] (μ ++ [some (.lst (f.map zD)), some (dS f)]) := by
  unfold L__law_all_3 sWhile
  have := while_ind (t := tVal (eB ltD (eVar 5) (eCall lenD (aCons (eVar 3) (aNil))))) (f := sSeq (L__law_all_2) (sSeq (sAsg (eB addD (eVar 5) (eC (.int 1))) (gNm 5)) (sNil)))
    (P := fun m δ ν => ∃ f k o6 o7 o8 o9, Bfs bs op s0 f k ∧ 100 - k = m ∧ δ = [some (dcN bs kp), some a, some (.bl op), some (.ref μ.length), some (.ref (μ.length + 1)), some (.int (k : Nat)), o6, o7, o8, o9] ∧ ν = μ ++ [some (.lst (f.map zD)), some (dS f)])
    (Q := fun δ ν => ∃ f o6 o7 o8 o9, Bfs bs op s0 f f.length ∧ δ = [some (dcN bs kp), some a, some (.bl op), some (.ref μ.length), some (.ref (μ.length + 1)), some (.int (f.length : Nat)), o6, o7, o8, o9] ∧ ν = μ ++ [some (.lst (f.map zD)), some (dS f)])
    (fun m δ ν hp => by
      obtain ⟨f, k, o6, o7, o8, o9, hd, hm, rfl, rfl⟩ := hp
      have hl := hd.len ok h0
      have hk := hd.hk
      by_cases q : k < f.length
      · right
        obtain ⟨s, hs⟩ : ∃ s, f[k]? = some s := ⟨_, List.getElem?_eq_getElem q⟩
        have hin : ∀ t ∈ f, InB t := fun t ht => (hd.r t ht).inb ok h0
        obtain ⟨p6, p7, p8, p9, e⟩ := la_loop2 (kp := kp) (a := a) (op := op) (μ := μ) (o6 := o6) (o7 := o7) (o8 := o8) (o9 := o9) ok (hin s (List.mem_of_getElem? hs)) hs hin hd.nd
        have hd2 := hd.turn hs
        exact ⟨μ ++ [some (.lst (f.map zD)), some (dS f)], [some (dcN bs kp), some a, some (.bl op), some (.ref μ.length), some (.ref (μ.length + 1)), some (.int ((k + 1 : Nat) : Int)), p6, p7, p8, p9], μ ++ [some (.lst ((addL f (nxt bs op s)).map zD)), some (dS (addL f (nxt bs op s)))], _, by simp [q], .inl (by simp [e]), ⟨_, _, _, _, _, _, hd2, rfl, rfl, rfl⟩, by omega⟩
      · left
        obtain rfl : k = f.length := by omega
        exact ⟨μ ++ [some (.lst (f.map zD)), some (dS f)], by simp, f, o6, o7, o8, o9, hd, rfl, rfl⟩) 1000 100 [some (dcN bs kp), some a, some (.bl op), some (.ref μ.length), some (.ref (μ.length + 1)), some (.int 0), none, none, none, none] (μ ++ [some (.lst ([s0].map zD)), some (dS [s0])]) (by decide) ⟨[s0], 0, _, _, _, _, Bfs.begin bs op s0, rfl, rfl, rfl⟩
  obtain ⟨δ', ν', e, f, o6, o7, o8, o9, hd, rfl, rfl⟩ := this
  exact ⟨f, f.length, o6, o7, o8, o9, hd.nd, hd.all, e⟩
/-! ### sorted standings -/
theorem alike_pr (s t : Nat × Bool) : alike (prP s) (prP t) = true := by simp [prP, alike, alikeAll]
theorem alike_st (s t : St) : alike (stP s) (stP t) = true := by simp [stP, alike, alikeAll, alike_pr]
theorem lt_prP (s t : Nat × Bool) : dataLt (prP s) (prP t) = ltP s t := by
  obtain ⟨a, o⟩ := s
  obtain ⟨b, q⟩ := t
  unfold prP
  rw [dataLt_pair (by simp [alike]) (by simp [alike]), dataLt_bool, dataLt_int]
  have e1 : PyData.eqv (.int (a : Nat)) (.int (b : Nat)) = decide (a = b) := by
    by_cases h : a = b
    · simp [h]
    · have : ¬ ((a : Int) = b) := by omega
      simp [h, this]
  rw [e1]
  by_cases h : a = b
  · subst h
    cases o <;> cases q <;> simp [ltP, PyData.eqv, PyProof.Rows.b2i]
  · simp only [ltP, h, decide_false, Bool.false_eq_true, if_false]
    have : ((a : Int) < b) ↔ a < b := by omega
    simp [this, h]
theorem lt_stP (s t : St) : dataLt (stP s) (stP t) = ltS s t := by
  obtain ⟨a, b⟩ := s
  obtain ⟨c, d⟩ := t
  unfold stP
  rw [dataLt_pair (alike_pr _ _) (alike_pr _ _), eqv_prP, eqv_prP, lt_prP, lt_prP]
  by_cases h : a = c
  · subst h
    by_cases h2 : b = d
    · subst h2; simp [ltS, ltP_irr]
    · simp [ltS, ltP_irr, h2]
  · simp [ltS, h]
theorem pyO_zD (s : St) : pyO (zD s) = stP s := rfl
theorem srt_st {l : List St} (h : l.Nodup) (hi : ∀ s ∈ l, InB s) : srtL (l.map zD) = some ((stOf (· ∈ l)).map zD) := by
  have hl := bound h hi
  unfold srtL
  rw [pys_of py_zD]
  have h1 : sortOk (l.map stP) = true := by
    simp only [sortOk, Bool.and_eq_true, List.all_eq_true, Bool.or_eq_true, decide_eq_true_eq]
    refine ⟨⟨fun p hp q hq => ?_, .inl fun p hp => ?_⟩, fun p hp => ?_⟩
    · obtain ⟨c, _, rfl⟩ := List.mem_map.mp hp
      obtain ⟨c', _, rfl⟩ := List.mem_map.mp hq
      exact alike_st c c'
    · obtain ⟨c, _, rfl⟩ := List.mem_map.mp hp
      rfl
    · obtain ⟨c, _, rfl⟩ := List.mem_map.mp hp
      rw [dep_stP]
      omega
  have h2 : (l.map zD).length ≤ sizeLine := le_size (by simp; omega)
  simp only [if_pos (And.intro h1 h2)]
  rw [← sort_st h hi]
  congr 1
  refine (List.map_mergeSort (f := zD) (r := leS) (s := dataLe false pyO) (l := l) fun a _ b _ => ?_).symm
  show _ = (!dataLt (pyO (zD b)) (pyO (zD a)))
  rw [pyO_zD, pyO_zD, lt_stP]
  rfl
theorem la_srt {n : Nat} {l : List St} {μ : MH} (h : l.Nodup) (hi : ∀ s ∈ l, InB s) (hm : μ[n]? = some (some (.lst (l.map zD)))) : srtD [.ref n] μ = .ok (.lst ((stOf (· ∈ l)).map zD)) μ := by
  simp [srtD, hm, srt_st h hi]
/-- all that comes from a standing, ascending -/
noncomputable def allS (bs : List Bn) (op : Bool) (s0 : St) : List St := stOf (Rch bs op s0)
theorem law_all_ok {bs : List Bn} (kp : List Int) (ok : OkB bs) {s0 : St} (h0 : InB s0) (op : Bool) (μ : MH) : F__law_all [dcN bs kp, zD s0, .bl op] μ = .ok (.lst ((allS bs op s0).map zD)) μ := by
  obtain ⟨f, k, o6, o7, o8, o9, h1, h2, e⟩ := la_loop3 (kp := kp) (a := zD s0) (op := op) (μ := μ) ok h0
  have ko := stE.ko s0
  change keyOf true (zD s0) = some (sK s0) at ko
  have hin : ∀ t ∈ f, InB t := fun t ht => ((h2 t).mp ht).inb ok h0
  have hs := la_srt (n := μ.length) (l := f) (μ := μ ++ [some (.lst (f.map zD)), some (dS f)]) h1 hin (by simp)
  rw [stOf_congr h2] at hs
  have hb1 : bels μ.length ((allS bs op s0).map zD) = true := bels_map (fun _ => zD_bel) _
  have hz1 : 1 ≤ sizeLine := le_size (by decide)
  have hdS : dS [s0] = .dic true [zD s0] [.bl true] := rfl
  simp only [List.map_cons, List.map_nil] at e
  rw [hdS] at e
  change srtD [.ref μ.length] (μ ++ [some (.lst (f.map zD)), some (dS f)]) = .ok (.lst ((allS bs op s0).map zD)) _ at hs
  generalize (allS bs op s0).map zD = A at *
  simp [-keyOf, F__law_all, fnB, ko, e, hz1, hs, eSrt, D.bel, hb1]
theorem law_first_ok {μ : MH} : F__law_first [] μ = .ok (zD fst0) μ := by
  have hz2 : 2 ≤ sizeLine := le_size (by decide)
  simp [F__law_first, fnB, hz2, zD, prD, fst0]
theorem all_sub {bs : List Bn} (ok : OkB bs) {op : Bool} {s0 s : St} (h0 : InB s0) : s ∈ allS bs op s0 ↔ Rch bs op s0 s := by
  unfold allS
  rw [mem_stOf]
  exact ⟨fun h => h.2, fun h => ⟨h.inb ok h0, h⟩⟩
theorem all_nod {bs : List Bn} {op : Bool} {s0 : St} : (allS bs op s0).Nodup := List.Nodup.sublist List.filter_sublist all_nodup
theorem all_le {bs : List Bn} {op : Bool} {s0 : St} : (allS bs op s0).length ≤ 100 := by
  rw [← all_len]
  exact List.filter_sublist.length_le
end SZ
end
section
/-! SG: what all laws use: drawn books, drawn standings, checks. -/
namespace SZ
open PySem PySem.Spec PySem.W U
theorem drawnN_ok {ns : List Int} {rest μ : MH} (h : Rw ns rest μ) (most many : Nat) (hm : 0 < many) (hm5 : many ≤ 5) (hk : 0 < most) (hk3 : most ≤ 3) : ∃ (bs : List Bn) (kp : List Int) (μ' : MH),
    F__law_drawn [.ref 0, .int most, .int many] μ = .ok (dcN bs kp) μ' ∧ OkB bs ∧ bs.length ≤ most ∧ (∀ b ∈ bs, b.l.length < many) ∧ kp ∈ kepts ∧ Rw ns rest μ' := by
  obtain ⟨xs, kp, μ', e, ⟨hl1, hl2⟩, ho, hkp, r⟩ := drawn_ok h most many hm (by omega) hk (by omega)
  obtain ⟨bs, rfl, hb⟩ := bxs_of hm5 ho
  rw [List.length_map] at hl1 hl2
  exact ⟨bs, kp, μ', e, ⟨⟨hl1, by omega⟩, fun b hb' => (hb b hb').1⟩, hl2, fun b hb' => (hb b hb').2, hkp, r⟩
theorem madeN_ok {bs : List Bn} {kp : List Int} {μ : MH} (ok : OkB bs) (hk : kp ∈ kepts) : F__law_made [dcN bs kp] μ = .ok (bkN bs kp) μ :=
  made_ok (fun x hx => by
    obtain ⟨b, hb, rfl⟩ := List.mem_map.mp hx
    exact (ok.2 b hb).bx) (by rw [List.length_map]; exact ok.1.1) (by rw [List.length_map]; exact ok.1.2) hk
theorem bkN_bel {bs : List Bn} {kp : List Int} {n : Nat} : (bkN bs kp).bel n = true := bk_bel
theorem all_ne {bs : List Bn} {op : Bool} {s0 : St} (h : InB s0) : 0 < (allS bs op s0).length := by
  have : s0 ∈ allS bs op s0 := mem_stOf.mpr ⟨h, .nil⟩
  exact List.length_pos_of_mem this
theorem law_stand_ok {ns : List Int} {rest μ : MH} (h : Rw ns rest μ) {bs : List Bn} {kp : List Int} (ok : OkB bs) : ∃ (s : St) (μ' : MH), F__law_stand [.ref 0, dcN bs kp] μ = .ok (zD s) μ' ∧ Rch bs false fst0 s ∧ InB s ∧ Rw ns rest μ' := by
  have hp := all_ne (bs := bs) (op := false) fst_in
  have hl := all_le (bs := bs) (op := false) (s0 := fst0)
  obtain ⟨i, μ1, e1, hi, r1⟩ := pick_ok h (allS bs false fst0).length (by omega) (by omega)
  obtain ⟨v, μ2, e2, hv, r2⟩ := pick_ok r1 2 (by decide) (by decide)
  have hv' : v = 0 ∨ v = 1 := by omega
  obtain ⟨t, ht⟩ : ∃ t, (allS bs false fst0)[i]? = some t := ⟨_, List.getElem?_eq_getElem (by omega)⟩
  have htm := mem_stOf.mp (List.mem_of_getElem? ht)
  have eL := law_all_ok kp ok fst_in false μ
  have hz2 : 2 ≤ sizeLine := le_size (by decide)
  have ei : ∀ μ, ixD (.lst ((allS bs false fst0).map zD)) (.int i) μ = .ok (zD t) μ := fun μ => by simp [ht]
  have hll : ((allS bs false fst0).map zD).length = (allS bs false fst0).length := by simp
  have ef : ∀ μ, F__law_first [] μ = .ok (zD fst0) μ := fun μ => law_first_ok
  generalize allS bs false fst0 = A at *
  generalize A.map zD = B at *
  have tr := fun d : D => h.trunc_ok (d := d) r2
  rcases hv' with rfl | rfl
  · refine ⟨fst0, μ2, ?_, .nil, fst_in, r2⟩
    have e2' : F__law_pick [.ref 0, .int 2] μ1 = .ok (.int 0) μ2 := e2
    simp [F__law_stand, fnB, ef, eL, hll, e1, ei, e2', hz2, tr, -ixD]
    simp [tr]
  · refine ⟨t, μ2, ?_, htm.2, htm.1, r2⟩
    have e2' : F__law_pick [.ref 0, .int 2] μ1 = .ok (.int 1) μ2 := e2
    simp [F__law_stand, fnB, ef, eL, hll, e1, ei, e2', hz2, tr, -ixD]
    simp [tr]
theorem indexes_ok {bs : List Bn} {kp : List Int} {μ : MH} (ok : OkB bs) : F_indexes [bkN bs kp] μ = .ok (.lst (rngD 0 bs.length)) μ := by
  have e0 : ∀ μ, fldD ct "told" (bkN bs kp) μ = .ok (.tup ((bs.map Bn.bx).map Bx.enc)) μ := fun μ => fld_told
  have hl : ((bs.map Bn.bx).map Bx.enc).length = bs.length := by simp
  generalize (bs.map Bn.bx).map Bx.enc = L at e0 hl
  have h3 := ok.1.2
  have h4 : (bs.length : Int) ≤ 1000 := by omega
  have hb : bels μ.length (rngD 0 bs.length) = true := bels_all fun d hd => by
    obtain ⟨i, hi⟩ := List.mem_iff_getElem?.mp hd
    obtain ⟨_, rfl⟩ := rng0_at hi
    rfl
  simp [F_indexes, fnB, -fldD, e0, hl, h4, D.bel, hb]
/-! ### checks -/
theorem is_pair_ok {t : Nat × Bool} {μ : MH} (h : t.1 ≤ 5) : F_is_pair [prD t] μ = .ok (.bl true) μ := by
  have e := is_from_ok (.int t.1) rfl 0 5 μ
  have : isFromB (.int t.1) 0 5 = true := by simp [isFromB]; omega
  rw [this] at e
  simp [F_is_pair, fnB, prD, tyN, isT, e]
theorem is_standing_ok {bs : List Bn} {kp : List Int} {s : St} {μ : MH} (ok : OkB bs) (h : Rch bs false fst0 s) : F_is_standing [bkN bs kp, zD s] μ = .ok (.bl true) μ := by
  have hi := h.inb ok fst_in
  obtain ⟨f, e, h1, h2⟩ := standings_of_ok kp ok μ
  have e1 := is_pair_ok (t := s.1) (μ := μ) (by have := hi.1; omega)
  have e2 := is_pair_ok (t := s.2) (μ := μ) (by have := hi.2; omega)
  have ei : inD false (zD s) (.dic true (f.map zD) (f.map tt)) μ = .ok (.bl true) μ := by
    have e := dlook_fn stE tt s f
    have ko := stE.ko s
    change keyOf true (zD s) = some (sK s) at ko
    change dlook (sK s) (f.map zD) (f.map tt) = _ at e
    rw [if_pos ((h2 s).mpr h)] at e
    simp only [inD, seqOf, dicOf, ko, e]
    rfl
  have hz : zD s = .tup [prD s.1, prD s.2] := rfl
  generalize f.map zD = A at *
  generalize f.map (tt : St → D) = B at *
  rw [hz] at ei ⊢
  simp [F_is_standing, fnB, -inD, tyN, isT, e1, e2, e, ei]
theorem check_standing_ok {bs : List Bn} {kp : List Int} {s : St} {μ : MH} (ok : OkB bs) (h : Rch bs false fst0 s) : F_check_standing [bkN bs kp, zD s] μ = .ok .non μ := by
  have e := is_standing_ok (kp := kp) (μ := μ) ok h
  simp [F_check_standing, fnB, e]
theorem check_standing_bad {bs : List Bn} {kp : List Int} {d : D} {μ : MH} (h : F_is_standing [bkN bs kp, d] μ = .ok (.bl false) μ) : F_check_standing [bkN bs kp, d] μ = .ex 8 [] μ := by
  simp [F_check_standing, fnB, h]
/-- what is no tuple is no standing -/
theorem no_standing {bs : List Bn} {kp : List Int} {d : D} {μ : MH} (h : tyN μ d = some "NoneType" ∨ tyN μ d = some "str" ∨ tyN μ d = some "int" ∨ tyN μ d = some "bool" ∨ tyN μ d = some "list") : F_is_standing [bkN bs kp, d] μ = .ok (.bl false) μ := by
  rcases h with h | h | h | h | h <;> simp [F_is_standing, fnB, isT, h]
theorem check_number_ok {d : D} {lo hi : Int} {μ : MH} (hp : plainD d = true) : F_check_number [d, .int lo, .int hi] μ = if isFromB d lo hi = true then .ok .non μ else .ex 9 [] μ := by
  have e := is_from_ok d hp lo hi μ
  cases h : isFromB d lo hi <;> rw [h] at e <;> simp [F_check_number, fnB, e]
theorem check_number_in {n : Nat} {lo hi : Nat} {μ : MH} (h1 : lo ≤ n) (h2 : n ≤ hi) : F_check_number [.int n, .int lo, .int hi] μ = .ok .non μ := by
  rw [check_number_ok rfl, if_pos]
  simp [isFromB]
  omega
end SZ
end
section
/-! SH: draws that were seen: the program's led, fitting, after, chance_of. -/
namespace SZ
open PySem PySem.Spec PySem.W U
/-! ### chances are small fractions -/
theorem mvs_bd {b : Bn} (ok : b.Ok) {s : St} {m : W3 × Rat × St} (hm : m ∈ mvs b s) : Bd 4 1 m.2.1 := by
  have hr := b.rare_le ok (gk s b.k).1
  have hp := b.part_le ok (gk s b.k).2
  unfold mvs at hm
  rcases List.mem_append.mp hm with hm | hm
  · unfold mv1 at hm
    split at hm
    · simp at hm; subst hm
      exact (Bd.pct (n := 100 - b.rare (gk s b.k).1) (k := 2) (by omega)).up (by decide) (by decide)
    · simp at hm
  · rcases List.mem_append.mp hm with hm | hm
    · unfold mv2 at hm
      split at hm
      · simp at hm; subst hm
        exact Bd.pct (n := b.rare (gk s b.k).1 * (100 - b.part (gk s b.k).2)) (k := 4) (Nat.le_trans (Nat.mul_le_mul hr (show 100 - b.part (gk s b.k).2 ≤ 100 by omega)) (by decide))
      · simp at hm
    · unfold mv3 at hm
      split at hm
      · simp at hm; subst hm
        exact Bd.pct (n := b.rare (gk s b.k).1 * b.part (gk s b.k).2) (k := 4) (Nat.le_trans (Nat.mul_le_mul hr hp.2) (by decide))
      · simp at hm
abbrev Sn := Nat × W3
def snD (x : Sn) : D := .tup [.int x.1, .str (wS x.2)]
/-- the one move with a word -/
def mvW (b : Bn) (s : St) (w : W3) : List (W3 × Rat × St) := (mvs b s).filter fun m => m.1 == w
theorem mvW_le {b : Bn} {s : St} {w : W3} : (mvW b s w).length ≤ 3 := Nat.le_trans (List.length_filter_le _ _) (mvs_len s)
theorem mvW_sub {b : Bn} {s : St} {w : W3} {m} (h : m ∈ mvW b s w) : m ∈ mvs b s := (List.mem_filter.mp h).1
def ledM (bs : List Bn) : List Sn → St → Rat → Option (St × Rat)
  | [], s, q => some (s, q)
  | x :: r, s, q => match bs[x.1]? with
    | none => none
    | some b => match mvW b s x.2 with
      | [] => none
      | m :: _ => ledM bs r m.2.2 (q * m.2.1)
theorem q0 : qD 0 = C_ZERO := rfl
theorem q1 : qD 1 = C_ONE := rfl
theorem wS_eq {w v : W3} {μ : MH} : eqD false (.str (wS w)) (.str (wS v)) μ = .ok (.bl (w == v)) μ := by
  rw [U.str_eq]
  cases w <;> cases v <;> rfl
def plD (m : W3 × Rat × St) : D := .tup [qD m.2.1, zD m.2.2]
theorem filter_map_of {α : Type} {enc : α → D} {p : D → Bool} {q : α → Bool} {y : D → D} {z : α → D} (hp : ∀ a, p (enc a) = q a) (hy : ∀ a, y (enc a) = z a) : ∀ l : List α, (((l.map enc).filter p).map y) = (l.filter q).map z
  | [] => rfl
  | a :: l => by
    rw [List.map_cons, List.filter_cons, List.filter_cons, hp a]
    cases q a
    · simpa using filter_map_of hp hy l
    · simp [hy, filter_map_of hp hy l]
/-- a comprehension over values of one kind -/
theorem eLc_enc {α : Type} {enc : α → D} {vs : List Nat} {fi : IF} {g : GF} {t : TF} {fe : EF} {δ : Sl} {μ : MH} {chk : MH → Bool} {l : List α} (p : α → Bool) (y : α → D) (hfi : fi δ μ = .ok (chk, l.map enc) μ) (hl : l.length ≤ 1000) (hc : ∀ acc, chk (μ ++ [some (.lst acc)]) = true)
    (h : ∀ a ∈ l, ∀ acc, ∃ δ2, g (enc a) (wipeD δ vs) (μ ++ [some (.lst acc)]) = .ok δ2 (μ ++ [some (.lst acc)]) ∧ t δ2 (μ ++ [some (.lst acc)]) = .ok (p a) (μ ++ [some (.lst acc)]) ∧ (p a = true → fe δ2 (μ ++ [some (.lst acc)]) = .ok (y a) (μ ++ [some (.lst acc)])))
    (hb : ∀ a ∈ l, p a = true → (y a).bel μ.length = true) : eLc vs fi g t fe δ μ = .ok (.lst ((l.filter p).map y)) μ := by
  simp only [eLc, hfi, R.bind]
  have key : ∀ (l : List α) (acc : List D), acc.length + l.length ≤ 1000 → (∀ a ∈ l, ∀ acc, ∃ δ2, g (enc a) (wipeD δ vs) (μ ++ [some (.lst acc)]) = .ok δ2 (μ ++ [some (.lst acc)]) ∧ t δ2 (μ ++ [some (.lst acc)]) = .ok (p a) (μ ++ [some (.lst acc)]) ∧ (p a = true → fe δ2 (μ ++ [some (.lst acc)]) = .ok (y a) (μ ++ [some (.lst acc)]))) →
      lcL μ.length chk g t fe (wipeD δ vs) (l.map enc) (μ ++ [some (.lst acc)]) = .ok (.ref μ.length) (μ ++ [some (.lst (acc ++ (l.filter p).map y))]) := by
    intro l
    induction l with
    | nil => intro acc _ _; simp [lcL, hc]
    | cons a r ih =>
      intro acc hl h
      obtain ⟨δ2, h1, h2, h3⟩ := h a (by simp) acc
      rw [List.map_cons]
      unfold lcL
      rw [if_pos (hc acc), h1]
      simp only [h2, R.nox, R.bind]
      cases hp : p a with
      | false =>
        simp only [Bool.false_eq_true, if_false]
        rw [ih acc (by simp at hl; omega) fun x hx => h x (List.mem_cons_of_mem _ hx), List.filter_cons_of_neg (by simp [hp])]
      | true =>
        simp only [if_true, h3 hp]
        have e : (μ ++ [some (MO.lst acc)])[μ.length]? = some (some (.lst acc)) := by simp
        rw [e]
        simp only []
        have hlt : acc.length < sizeLine := lt_size (by simp at hl; omega)
        rw [if_pos hlt]
        have e2 : (μ ++ [some (MO.lst acc)]).set μ.length (some (.lst (acc ++ [y a]))) = μ ++ [some (.lst (acc ++ [y a]))] := by simp
        rw [e2, ih (acc ++ [y a]) (by simp at hl ⊢; omega) fun x hx => h x (List.mem_cons_of_mem _ hx), List.filter_cons_of_pos hp]
        simp
  rw [key l [] (by simpa using hl) h]
  simp only [List.nil_append, frzD, List.getElem?_append_right (Nat.le_refl _), Nat.sub_self, List.getElem?_cons_zero]
  have e : (μ ++ [some (MO.lst ((l.filter p).map y))]).set μ.length none = μ ++ [none] := by simp
  rw [e, trunc_ok]
  show bels _ _ = true
  refine bels_all fun d hd => ?_
  obtain ⟨x, hx, rfl⟩ := List.mem_map.mp hd
  obtain ⟨h1, h2⟩ := List.mem_filter.mp hx
  exact hb x h1 h2
theorem eLc_all {α : Type} {enc : α → D} {vs : List Nat} {fi : IF} {g : GF} {fe : EF} {δ : Sl} {μ : MH} {chk : MH → Bool} {l : List α} (y : α → D) (hfi : fi δ μ = .ok (chk, l.map enc) μ) (hl : l.length ≤ 1000) (hc : ∀ acc, chk (μ ++ [some (.lst acc)]) = true)
    (h : ∀ a ∈ l, ∀ acc, ∃ δ2, g (enc a) (wipeD δ vs) (μ ++ [some (.lst acc)]) = .ok δ2 (μ ++ [some (.lst acc)]) ∧ fe δ2 (μ ++ [some (.lst acc)]) = .ok (y a) (μ ++ [some (.lst acc)]))
    (hb : ∀ a ∈ l, (y a).bel μ.length = true) : eLc vs fi g tYesD fe δ μ = .ok (.lst (l.map y)) μ := by
  rw [eLc_enc (enc := enc) (fun _ => true) y hfi hl hc (fun a ha acc => ?_) fun a ha _ => hb a ha]
  · rw [List.filter_eq_self.mpr (by simp)]
  · obtain ⟨δ2, h1, h2⟩ := h a ha acc
    exact ⟨δ2, h1, rfl, fun _ => h2⟩
theorem led_k {bs : List Bn} {kp : List Int} {i : Nat} {b : Bn} {s : St} {w : W3} {d : D} {q : D} {o6 o7 o8 o9 : Option D} {μ : MH} (hb : bs[i]? = some b) (ok : b.Ok) :
    K_led_1 [some (bkN bs kp), some (zD s), some d, some q, some (.int i), some (.str (wS w)), o6, o7, o8, o9] μ = .ok (.lst ((mvW b s w).map plD)) μ := by
  have e := moves_of_ok (kp := kp) (s := s) (μ := μ) hb ok
  have hz2 : 2 ≤ sizeLine := le_size (by decide)
  have hl := mvs_len (b := b) s
  unfold K_led_1
  refine eLc_enc (enc := mvD) (chk := fun μ => sameL μ (.lst ((mvs b s).map mvD)) ((mvs b s).map mvD)) (l := mvs b s) (fun m => m.1 == w) plD (by simp [e]) (by omega) (fun acc => by simp) (fun m hm acc => ?_) (fun m hm _ => by simp [plD, D.bel, bels, qD_bel, zD_bel])
  obtain ⟨v, p, u⟩ := m
  refine ⟨[some (bkN bs kp), some (zD s), some d, some q, some (.int i), some (.str (wS w)), o6, some (.str (wS v)), some (qD p), some (zD u)], by simp [mvD, wipeD], ?_, fun _ => by simp [hz2, plD]⟩
  have := wS_eq (w := v) (v := w) (μ := μ ++ [some (.lst acc)])
  simp [-eqD, this]
/-- == [] -/
theorem is_nil {l : List D} {ps : List PyData} {μ : MH} (hp : pys l = some ps) : eqD false (.lst l) (.lst []) μ = .ok (.bl l.isEmpty) μ := by
  rw [eqD_py (p := .list ps) (q := .list []) (by simp [pyM, py, hp]) rfl (by simp [PyData.depth, PyData.depthAll])]
  cases l with
  | nil => cases hp; rfl
  | cons a l =>
    simp only [pys] at hp
    split at hp
    · cases hp; rfl
    · cases hp
def plP (m : W3 × Rat × St) : PyData := .tuple [.tuple [.int m.2.1.num, .int m.2.1.den], stP m.2.2]
theorem py_plD (m) : py (plD m) = some (plP m) := rfl
def ledR : Option (St × Rat) → D
  | some (s, q) => .tup [zD s, qD q]
  | none => .tup [.non, C_ZERO]
theorem ledR_bel {o : Option (St × Rat)} {n : Nat} : (ledR o).bel n = true := by
  cases o with
  | none => rfl
  | some x => simp [ledR, D.bel, bels, zD_bel, qD_bel]
theorem led_loop {bs : List Bn} {kp : List Int} {d : D} {μ : MH} (ok : OkB bs) : ∀ (r full : List Sn) (s : St) (q : Rat) (j : Nat) (o4 o5 o6 o7 o8 o9 : Option D), sameL μ d (full.map snD) = true → (∀ x ∈ r, x.1 < bs.length) → Bd (4 * j) 1 q → j + r.length ≤ 200 →
    (match ledM bs r s q with
      | some (s', q') => ∃ o4' o5' o6' o7' o8' o9', sForL (fun μ => sameL μ d (full.map snD)) (gTp 2 (gsCons (gNm 4) (gsCons (gNm 5) (gsNil)))) (sSeq (sAsg (K_led_1) (gNm 6)) (sSeq (sIf (tVal (eB (eqD false) (eVar 6) (eLst (aNil)))) (sSeq (sRet (eTup (aCons (eC .non) (aCons (eC C_ZERO) (aNil))))) (sNil)) (sNil)) (sSeq (sPar [3, 1] (aCons (eCall F_times (aCons (eVar 3) (aCons (eB ixD (eB ixD (eVar 6) (eC (.int 0))) (eC (.int 0))) (aNil)))) (aCons (eB ixD (eB ixD (eVar 6) (eC (.int 0))) (eC (.int 1))) (aNil)))) (sNil)))) (r.map snD) [some (bkN bs kp), some (zD s), some d, some (qD q), o4, o5, o6, o7, o8, o9] μ = .nx [some (bkN bs kp), some (zD s'), some d, some (qD q'), o4', o5', o6', o7', o8', o9'] μ
      | none => sForL (fun μ => sameL μ d (full.map snD)) (gTp 2 (gsCons (gNm 4) (gsCons (gNm 5) (gsNil)))) (sSeq (sAsg (K_led_1) (gNm 6)) (sSeq (sIf (tVal (eB (eqD false) (eVar 6) (eLst (aNil)))) (sSeq (sRet (eTup (aCons (eC .non) (aCons (eC C_ZERO) (aNil))))) (sNil)) (sNil)) (sSeq (sPar [3, 1] (aCons (eCall F_times (aCons (eVar 3) (aCons (eB ixD (eB ixD (eVar 6) (eC (.int 0))) (eC (.int 0))) (aNil)))) (aCons (eB ixD (eB ixD (eVar 6) (eC (.int 0))) (eC (.int 1))) (aNil)))) (sNil)))) (r.map snD) [some (bkN bs kp), some (zD s), some d, some (qD q), o4, o5, o6, o7, o8, o9] μ = .rt (.tup [.non, C_ZERO]) μ)
  | [], full, s, q, j, o4, o5, o6, o7, o8, o9, hc, hr, hq, hj => ⟨o4, o5, o6, o7, o8, o9, by simp [sForL, hc]⟩
  | (i, w) :: r, full, s, q, j, o4, o5, o6, o7, o8, o9, hc, hr, hq, hj => by
    have hi := hr (i, w) (by simp)
    simp only at hi
    obtain ⟨b, hb⟩ : ∃ b, bs[i]? = some b := ⟨_, List.getElem?_eq_getElem hi⟩
    have okb := ok.2 b (List.mem_of_getElem? hb)
    have ek := led_k (kp := kp) (s := s) (w := w) (d := d) (q := qD q) (o6 := o6) (o7 := o7) (o8 := o8) (o9 := o9) (μ := μ) hb okb
    have en := is_nil (l := (mvW b s w).map plD) (μ := μ) (pys_of py_plD (mvW b s w))
    have hz2 : 2 ≤ sizeLine := le_size (by decide)
    simp only [ledM, hb]
    cases hm : mvW b s w with
    | nil =>
      rw [hm] at ek en
      simp only [List.map_nil] at ek en
      have hen : ([] : List D).isEmpty = true := rfl
      rw [hen] at en
      simp [-eqD, sForL, hc, snD, ek, en, hz2]
    | cons m t =>
      have hmm : m ∈ mvs b s := mvW_sub (by rw [hm]; simp)
      have hbd := mvs_bd okb hmm
      have hq2 : Bd (4 * (j + 1)) 1 (q * m.2.1) := (hq.mul hbd).up (by omega) (by decide)
      have ih := led_loop (kp := kp) (d := d) (μ := μ) ok r full m.2.2 (q * m.2.1) (j + 1) (some (.int i)) (some (.str (wS w))) (some (.lst ((m :: t).map plD))) o7 o8 o9 hc (fun x hx => hr x (List.mem_cons_of_mem _ hx)) hq2 (by simp at hj; omega)
      have et := times_ok (μ := μ) (hq.small (by simp at hj; omega) (by decide)) (hbd.small (by decide) (by decide))
      rw [hm] at ek en
      have hen : ((m :: t).map plD).isEmpty = false := rfl
      rw [hen] at en
      have ei : ∀ μ, ixD (.lst ((m :: t).map plD)) (.int 0) μ = .ok (plD m) μ := fun μ => by simp
      have ei0 : ∀ μ, ixD (plD m) (.int 0) μ = .ok (qD m.2.1) μ := fun μ => by simp [plD]
      have ei1 : ∀ μ, ixD (plD m) (.int 1) μ = .ok (zD m.2.2) μ := fun μ => by simp [plD]
      have hlen : ∀ l : List D, l.isEmpty = false → True := fun _ _ => trivial
      generalize (m :: t).map plD = A at ek en ei ih
      simp only
      cases hL : ledM bs r m.2.2 (q * m.2.1) with
      | none =>
        rw [hL] at ih
        simp only at ih ⊢
        rw [← ih]
        simp [-eqD, -ixD, sForL, hc, snD, ek, en, hz2, ei, ei0, ei1, et]
      | some x =>
        rw [hL] at ih
        simp only at ih ⊢
        obtain ⟨p4, p5, p6, p7, p8, p9, e⟩ := ih
        refine ⟨p4, p5, p6, p7, p8, p9, ?_⟩
        rw [← e]
        simp [-eqD, -ixD, sForL, hc, snD, ek, en, hz2, ei, ei0, ei1, et]
theorem led_ok {bs : List Bn} {kp : List Int} {d : D} {μ : MH} (ok : OkB bs) {seen : List Sn} {s : St} (hd : seqOf μ d = some (seen.map snD)) (hr : ∀ x ∈ seen, x.1 < bs.length) (hl : seen.length ≤ 100) : F_led [bkN bs kp, zD s, d] μ = .ok (ledR (ledM bs seen s 1)) μ := by
  have hs : sameL μ d (seen.map snD) = true := by unfold sameL; rw [hd]; exact beqs_refl _
  have h := led_loop (kp := kp) (d := d) (μ := μ) ok seen seen s 1 0 none none none none none none hs hr ((Bd.nat 1).up (by omega) (by decide)) (by omega)
  have hz2 : 2 ≤ sizeLine := le_size (by decide)
  have hi : iSq (eVar 2) [some (bkN bs kp), some (zD s), some d, some C_ONE, none, none, none, none, none, none] μ = .ok (fun μ => sameL μ d (seen.map snD), seen.map snD) μ := by simp only [iSq, eVar, List.getElem?_cons_succ, List.getElem?_cons_zero, R.bind, hd]
  rw [q1] at h
  cases hL : ledM bs seen s 1 with
  | none =>
    rw [hL] at h
    simp only at h
    have e : L_led_1 [some (bkN bs kp), some (zD s), some d, some C_ONE, none, none, none, none, none, none] μ = .rt (.tup [.non, C_ZERO]) μ := by
      unfold L_led_1 sFor
      rw [hi]
      exact h
    simp only [C_ONE, C_ZERO] at e
    simp [F_led, fnB, e, ledR]
  | some x =>
    rw [hL] at h
    obtain ⟨p4, p5, p6, p7, p8, p9, h⟩ := h
    have e : L_led_1 [some (bkN bs kp), some (zD s), some d, some C_ONE, none, none, none, none, none, none] μ = .nx [some (bkN bs kp), some (zD x.1), some d, some (qD x.2), p4, p5, p6, p7, p8, p9] μ := by
      unfold L_led_1 sFor
      rw [hi]
      exact h
    simp only [C_ONE] at e
    simp [F_led, fnB, e, ledR, hz2]
end SZ
end
section
/-! SI: fitting, after, chance_of; BadSeen. -/
namespace SZ
open PySem PySem.Spec PySem.W U
theorem told_len {bs : List Bn} : ((bs.map Bn.bx).map Bx.enc).length = bs.length := by simp
theorem words_in {w : W3} {μ : MH} : inD false (.str (wS w)) C_WORDS μ = .ok (.bl true) μ := by cases w <;> rfl
theorem is_draw_ok {bs : List Bn} {kp : List Int} {x : Sn} {μ : MH} (h : x.1 < bs.length) : F_is_draw [bkN bs kp, snD x] μ = .ok (.bl true) μ := by
  obtain ⟨i, w⟩ := x
  have e0 : ∀ μ, fldD ct "told" (bkN bs kp) μ = .ok (.tup ((bs.map Bn.bx).map Bx.enc)) μ := fun μ => fld_told
  have hl := told_len (bs := bs)
  generalize (bs.map Bn.bx).map Bx.enc = L at e0 hl
  have e := is_from_ok (.int i) rfl 0 ((bs.length : Int) - 1) μ
  have hb : isFromB (.int i) 0 ((bs.length : Int) - 1) = true := by
    simp only [isFromB, Bool.and_eq_true, decide_eq_true_eq]
    simp only at h
    omega
  rw [hb] at e
  have ew := words_in (w := w) (μ := μ)
  unfold C_WORDS at ew
  simp [F_is_draw, fnB, -inD, -fldD, e0, hl, snD, tyN, isT, e, ew]
/-- a value that is no draw -/
def NoDraw (bs : List Bn) (d : D) : Prop := ∀ kp μ, F_is_draw [bkN bs kp, d] μ = .ok (.bl false) μ
theorem nodraw_ty {bs : List Bn} {d : D} (h : ∀ μ, tyN μ d = some "NoneType" ∨ tyN μ d = some "list") : NoDraw bs d := fun kp μ => by
  rcases h μ with h | h <;> simp [F_is_draw, fnB, isT, h]
theorem nodraw_len {bs : List Bn} {l : List D} (h : l.length ≠ 2) : NoDraw bs (.tup l) := fun kp μ => by
  have h' : ¬ ((l.length : Int) = 2) := by omega
  simp [F_is_draw, fnB, tyN, isT, h']
theorem nodraw_ix {bs : List Bn} {a b : D} (hp : plainD a = true) (h : isFromB a 0 ((bs.length : Int) - 1) = false) : NoDraw bs (.tup [a, b]) := fun kp μ => by
  have e0 : ∀ μ, fldD ct "told" (bkN bs kp) μ = .ok (.tup ((bs.map Bn.bx).map Bx.enc)) μ := fun μ => fld_told
  have hl := told_len (bs := bs)
  generalize (bs.map Bn.bx).map Bx.enc = L at e0 hl
  have e := is_from_ok a hp 0 ((bs.length : Int) - 1) μ
  rw [h] at e
  simp [F_is_draw, fnB, -fldD, e0, hl, tyN, isT, e]
theorem nodraw_word {bs : List Bn} (ok : OkB bs) {b : D} (h : b = .non ∨ b = .str "rare") : NoDraw bs (.tup [.int 0, b]) := fun kp μ => by
  have e0 : ∀ μ, fldD ct "told" (bkN bs kp) μ = .ok (.tup ((bs.map Bn.bx).map Bx.enc)) μ := fun μ => fld_told
  have hl := told_len (bs := bs)
  generalize (bs.map Bn.bx).map Bx.enc = L at e0 hl
  have e := is_from_ok (.int 0) rfl 0 ((bs.length : Int) - 1) μ
  have hb : isFromB (.int 0) 0 ((bs.length : Int) - 1) = true := by
    have := ok.1.1
    simp only [isFromB, Bool.and_eq_true, decide_eq_true_eq]
    omega
  rw [hb] at e
  rcases h with rfl | rfl
  · simp [F_is_draw, fnB, -fldD, e0, hl, tyN, isT, e]
  · have ew : inD false (.str "rare") C_WORDS μ = .ok (.bl false) μ := rfl
    unfold C_WORDS at ew
    simp [F_is_draw, fnB, -inD, -fldD, e0, hl, tyN, isT, e, ew]
theorem en_map {α : Type} {enc : α → D} : ∀ (l : List α) (k : Nat), enD k (l.map enc) = (l.zipIdx k).map fun p => .tup [.int (p.2 : Nat), enc p.1]
  | [], _ => rfl
  | a :: l, k => by simp [enD, en_map l (k + 1)]
theorem check_seen_ok {bs : List Bn} {kp : List Int} {d : D} {seen : List Sn} {μ : MH} (hd : seqOf μ d = some (seen.map snD)) (hr : ∀ x ∈ seen, x.1 < bs.length) : F_check_seen [bkN bs kp, d] μ = .ok .non μ := by
  have hs : sameL μ d (seen.map snD) = true := by unfold sameL; rw [hd]; exact beqs_refl _
  have h : ∃ δ' μ', L_check_seen_1 [some (bkN bs kp), some d, none, none] μ = .nx δ' μ' ∧ (∃ o2 o3, δ' = [some (bkN bs kp), some d, o2, o3]) ∧ μ' = μ := by
    unfold L_check_seen_1 sFor
    have hi : iEn (aCons (eVar 1) aNil) [some (bkN bs kp), some d, none, none] μ = .ok (fun μ => sameL μ d (seen.map snD), enD 0 (seen.map snD)) μ := by
      simp only [iEn, aCons, aNil, eVar, List.getElem?_cons_succ, List.getElem?_cons_zero, R.bind, hd]
    rw [hi]
    simp only [R.to]
    rw [en_map]
    obtain ⟨δ', μ', e, h⟩ := for_fold (T := Unit) (enc := fun p : Sn × Nat => D.tup [.int (p.2 : Nat), snD p.1]) (R := fun _ δ ν => (∃ o2 o3, δ = [some (bkN bs kp), some d, o2, o3]) ∧ ν = μ) (step := fun _ _ => ())
      (chk := fun μ => sameL μ d (seen.map snD)) (g := gTp 2 (gsCons (gNm 2) (gsCons (gNm 3) (gsNil)))) (f := sSeq (sIf (tNotD (tVal (eCall F_is_draw (aCons (eVar 0) (aCons (eVar 3) (aNil)))))) (sSeq (sRz1 15 1 (aCons (eVar 2) (aNil))) (sNil)) (sNil)) (sNil))
      (fun t δ ν h => by rw [h.2]; exact hs) (seen.zipIdx 0) (fun t p δ ν hp hr' => by
        obtain ⟨⟨o2, o3, rfl⟩, rfl⟩ := hr'
        have := is_draw_ok (kp := kp) (μ := ν) (hr p.1 (by
          have := List.mem_zipIdx_iff_getElem?.mp hp
          exact List.mem_of_getElem? this))
        exact ⟨[some (bkN bs kp), some d, some (.int (p.2 : Nat)), some (snD p.1)], ν, [some (bkN bs kp), some d, some (.int (p.2 : Nat)), some (snD p.1)], ν, by simp, .inl (by simp [this]), ⟨_, _, rfl⟩, rfl⟩) () [some (bkN bs kp), some d, none, none] μ ⟨⟨_, _, rfl⟩, rfl⟩
    exact ⟨δ', μ', e, h⟩
  obtain ⟨δ', μ', e, ⟨o2, o3, rfl⟩, rfl⟩ := h
  simp [F_check_seen, fnB, e]
theorem check_seen_bad {bs : List Bn} {kp : List Int} {d bad : D} {rest : List D} {seen : List Sn} {μ : MH} (hd : seqOf μ d = some (seen.map snD ++ bad :: rest)) (hr : ∀ x ∈ seen, x.1 < bs.length) (hb : NoDraw bs bad) : F_check_seen [bkN bs kp, d] μ = .ex 15 [.int seen.length] μ := by
  have hs : sameL μ d (seen.map snD ++ bad :: rest) = true := by unfold sameL; rw [hd]; exact beqs_refl _
  have h : ∃ δ', L_check_seen_1 [some (bkN bs kp), some d, none, none] μ = .ex 15 [.int seen.length] δ' μ := by
    unfold L_check_seen_1 sFor
    have hi : iEn (aCons (eVar 1) aNil) [some (bkN bs kp), some d, none, none] μ = .ok (fun μ => sameL μ d (seen.map snD ++ bad :: rest), enD 0 (seen.map snD ++ bad :: rest)) μ := by
      simp only [iEn, aCons, aNil, eVar, List.getElem?_cons_succ, List.getElem?_cons_zero, R.bind, hd]
    rw [hi]
    simp only [R.to]
    refine for_ix (P := fun i δ ν => i ≤ seen.length ∧ (∃ o2 o3, δ = [some (bkN bs kp), some d, o2, o3]) ∧ ν = μ) (Good := fun r => ∃ δ', r = .ex 15 [.int seen.length] δ' μ) ?_ ?_ ⟨by omega, ⟨_, _, rfl⟩, rfl⟩
    · rintro δ ν ⟨h1, _⟩
      exfalso
      rw [en_len] at h1
      simp at h1
      omega
    · rintro i x δ ν hx ⟨h1, ⟨o2, o3, rfl⟩, rfl⟩
      refine ⟨hs, ?_⟩
      obtain ⟨y, hy, rfl⟩ := en_at hx
      refine ⟨[some (bkN bs kp), some d, some (.int (i : Nat)), some y], ν, by simp, ?_⟩
      by_cases q : i < seen.length
      · left
        rw [List.getElem?_append_left (by simpa using q)] at hy
        simp only [List.getElem?_map, Option.map_eq_some_iff] at hy
        obtain ⟨z, hz, rfl⟩ := hy
        have := is_draw_ok (kp := kp) (μ := ν) (hr z (List.mem_of_getElem? hz))
        exact ⟨[some (bkN bs kp), some d, some (.int (i : Nat)), some (snD z)], ν, .inl (by simp [this]), by omega, ⟨_, _, rfl⟩, rfl⟩
      · right; right; right
        obtain rfl : i = seen.length := by omega
        rw [List.getElem?_append_right (by simp)] at hy
        simp at hy
        subst hy
        have := hb kp ν
        refine ⟨15, [.int seen.length], [some (bkN bs kp), some d, some (.int (seen.length : Nat)), some bad], ν, by simp [this], _, rfl⟩
  obtain ⟨δ', e⟩ := h
  simp [F_check_seen, fnB, e]
/-! ### the questions -/
theorem ledR_0 {o : Option (St × Rat)} {μ : MH} : ixD (ledR o) (.int 0) μ = .ok (match o with
    | some x => zD x.1
    | none => .non) μ := by cases o <;> simp [ledR]
theorem ledR_1 {o : Option (St × Rat)} {μ : MH} : ixD (ledR o) (.int 1) μ = .ok (match o with
    | some x => qD x.2
    | none => C_ZERO) μ := by cases o <;> simp [ledR]
def led0 (o : Option (St × Rat)) : D := match o with
    | some x => zD x.1
    | none => .non
def led1 (o : Option (St × Rat)) : D := match o with
    | some x => qD x.2
    | none => C_ZERO
theorem led0_bel {o : Option (St × Rat)} {n : Nat} : (led0 o).bel n = true := by cases o <;> simp [led0, D.bel, zD_bel]
theorem led1_bel {o : Option (St × Rat)} {n : Nat} : (led1 o).bel n = true := by cases o <;> simp [led1, D.bel, bels, qD_bel]
theorem after_ok {bs : List Bn} {kp : List Int} {d : D} {seen : List Sn} {s : St} {μ : MH} (ok : OkB bs) (hs : Rch bs false fst0 s) (hd : seqOf μ d = some (seen.map snD)) (hr : ∀ x ∈ seen, x.1 < bs.length) (hl : seen.length ≤ 100) :
    F_after [bkN bs kp, zD s, d] μ = .ok (led0 (ledM bs seen s 1)) μ := by
  have e1 := check_standing_ok (kp := kp) (μ := μ) ok hs
  have e2 := check_seen_ok (kp := kp) hd hr
  have e3 := led_ok (kp := kp) (s := s) ok hd hr hl
  have e4 := ledR_0 (o := ledM bs seen s 1) (μ := μ)
  change _ = R.ok (led0 (ledM bs seen s 1)) μ at e4
  simp [F_after, fnB, -ixD, e1, e2, e3, e4]
theorem chance_of_ok {bs : List Bn} {kp : List Int} {d : D} {seen : List Sn} {s : St} {μ : MH} (ok : OkB bs) (hs : Rch bs false fst0 s) (hd : seqOf μ d = some (seen.map snD)) (hr : ∀ x ∈ seen, x.1 < bs.length) (hl : seen.length ≤ 100) :
    F_chance_of [bkN bs kp, zD s, d] μ = .ok (led1 (ledM bs seen s 1)) μ := by
  have e1 := check_standing_ok (kp := kp) (μ := μ) ok hs
  have e2 := check_seen_ok (kp := kp) hd hr
  have e3 := led_ok (kp := kp) (s := s) ok hd hr hl
  have e4 := ledR_1 (o := ledM bs seen s 1) (μ := μ)
  change _ = R.ok (led1 (ledM bs seen s 1)) μ at e4
  simp [F_chance_of, fnB, -ixD, e1, e2, e3, e4]
theorem after_bad {bs : List Bn} {kp : List Int} {d bad : D} {rest : List D} {seen : List Sn} {s : St} {μ : MH} (ok : OkB bs) (hs : Rch bs false fst0 s) (hd : seqOf μ d = some (seen.map snD ++ bad :: rest)) (hr : ∀ x ∈ seen, x.1 < bs.length) (hb : NoDraw bs bad) :
    F_after [bkN bs kp, zD s, d] μ = .ex 15 [.int seen.length] μ := by
  have e1 := check_standing_ok (kp := kp) (μ := μ) ok hs
  have e2 := check_seen_bad (kp := kp) hd hr hb
  simp [F_after, fnB, e1, e2]
theorem after_none {bs : List Bn} {kp : List Int} {d : D} {μ : MH} : F_after [bkN bs kp, .non, d] μ = .ex 8 [] μ := by
  have e1 := check_standing_bad (kp := kp) (no_standing (bs := bs) (kp := kp) (d := .non) (μ := μ) (.inl rfl))
  simp [F_after, fnB, e1]
/-- the standings that fit -/
noncomputable def fitS (bs : List Bn) (seen : List Sn) : List St := (allS bs false fst0).filter fun s => (ledM bs seen s 1).isSome
theorem stOf_filter {P : St → Prop} {p : St → Bool} : (stOf P).filter p = stOf fun s => P s ∧ p s = true := by
  unfold stOf
  rw [List.filter_filter]
  congr 1
  funext s
  by_cases h : P s <;> cases h2 : p s <;> simp [h, h2]
theorem fitting_ok {bs : List Bn} {kp : List Int} {d : D} {seen : List Sn} {μ : MH} (ok : OkB bs) (hd : ∀ more, seqOf (μ ++ more) d = some (seen.map snD)) (hr : ∀ x ∈ seen, x.1 < bs.length) (hl : seen.length ≤ 100) :
    F_fitting [bkN bs kp, d] μ = .ok (.lst ((fitS bs seen).map zD)) μ := by
  have hd0 : seqOf μ d = some (seen.map snD) := by simpa using hd []
  have e1 := check_seen_ok (kp := kp) hd0 hr
  obtain ⟨f, ef, h1, h2⟩ := standings_of_ok kp ok μ
  have hin : ∀ s ∈ f, InB s := fun s hs => ((h2 s).mp hs).inb ok fst_in
  have hlen := bound h1 hin
  have ek : K_fitting_1 [some (bkN bs kp), some d, none] μ = .ok (.lst ((f.filter fun s => (ledM bs seen s 1).isSome).map zD)) μ := by
    unfold K_fitting_1
    refine eLc_enc (enc := zD) (chk := fun _ => true) (l := f) (fun s => (ledM bs seen s 1).isSome) zD (by simp [ef]) (by omega) (fun acc => rfl) (fun s hs acc => ?_) (fun s hs _ => zD_bel)
    refine ⟨[some (bkN bs kp), some d, some (zD s)], by simp [wipeD], ?_, fun _ => by simp⟩
    have e := led_ok (kp := kp) (s := s) ok (hd [some (.lst acc)]) hr hl
    have e4 := ledR_0 (o := ledM bs seen s 1) (μ := μ ++ [some (.lst acc)])
    have n1 : ∀ s μ, isN true (zD s) .non μ = .ok (.bl true) μ := fun _ _ => rfl
    have n0 : ∀ μ, isN true .non .non μ = .ok (.bl false) μ := fun _ => rfl
    cases h : ledM bs seen s 1 <;> rw [h] at e e4 <;> simp [-ixD, -isN, e, e4, n0, n1]
  have hn : (f.filter fun s => (ledM bs seen s 1).isSome).Nodup := List.Nodup.sublist List.filter_sublist h1
  have es := srt_st hn fun s hs => hin s (List.mem_filter.mp hs).1
  have hq : stOf (· ∈ f.filter fun s => (ledM bs seen s 1).isSome) = fitS bs seen := by
    unfold fitS allS
    rw [stOf_filter]
    exact stOf_congr fun s => by rw [List.mem_filter, h2]
  rw [hq] at es
  have hb1 : bels μ.length ((fitS bs seen).map zD) = true := bels_map (fun _ => zD_bel) _
  generalize (f.filter fun s => (ledM bs seen s 1).isSome).map zD = A at ek es
  generalize (fitS bs seen).map zD = B at *
  simp [F_fitting, fnB, e1, ek, eSrt, srtD, es]
end SZ
end
section
/-! SJ: rows of draws and objects behind them; comprehensions over range(len(l)). -/
namespace SZ
open PySem PySem.Spec PySem.W U
theorem rwn_get {ns : List Int} {rest μ : MH} {k : Nat} (h : Rw ns rest μ) : μ[k + 1]? = rest[k]? := by
  obtain ⟨i, b, s, rfl⟩ := h
  simp [SZ.M]
theorem rwn_set {ns : List Int} {rest μ : MH} {k : Nat} {m : Option MO} (h : Rw ns rest μ) : Rw ns (rest.set k m) (μ.set (k + 1) m) := by
  obtain ⟨i, b, s, rfl⟩ := h
  exact ⟨i, b, s, by simp [SZ.M]⟩
theorem rwn_len {ns : List Int} {rest μ : MH} (h : Rw ns rest μ) : μ.length = rest.length + 1 := by
  obtain ⟨i, b, s, rfl⟩ := h
  simp
theorem eLc_rl {α : Type} {vs : List Nat} {fi : IF} {g : GF} {t : TF} {fe : EF} {δ : Sl} {μ : MH} {l : List α} (p : α → Bool) (y : α → D) (hfi : fi δ μ = .ok (fun _ => true, rngD 0 l.length) μ) (hl : l.length ≤ 1000)
    (h : ∀ (i : Nat) a, l[i]? = some a → ∀ acc, ∃ δ2, g (.int i) (wipeD δ vs) (μ ++ [some (.lst acc)]) = .ok δ2 (μ ++ [some (.lst acc)]) ∧ t δ2 (μ ++ [some (.lst acc)]) = .ok (p a) (μ ++ [some (.lst acc)]) ∧ (p a = true → fe δ2 (μ ++ [some (.lst acc)]) = .ok (y a) (μ ++ [some (.lst acc)])))
    (hb : ∀ a ∈ l, p a = true → (y a).bel μ.length = true) : eLc vs fi g t fe δ μ = .ok (.lst ((l.filter p).map y)) μ := by
  have e : rngD 0 l.length = l.zipIdx.map fun p : α × Nat => D.int p.2 := by
    refine List.ext_getElem? fun i => ?_
    simp only [rngD, List.getElem?_map, List.getElem?_zipIdx]
    by_cases hi : i < l.length
    · simp [hi]
    · simp [hi]
  rw [e] at hfi
  have := eLc_enc (enc := fun p : α × Nat => D.int p.2) (chk := fun _ => true) (l := l.zipIdx) (fun q => p q.1) (fun q => y q.1) hfi (by simpa using hl) (fun _ => rfl) (fun q hq acc => h q.2 q.1 (List.mem_zipIdx_iff_getElem?.mp hq) acc) fun q hq hp => hb q.1 (List.mem_of_getElem? (List.mem_zipIdx_iff_getElem?.mp hq)) hp
  rw [this]
  congr 2
  have e2 : l.zipIdx.map (·.1) = l := by simp
  conv => rhs; rw [← e2]
  rw [List.filter_map, List.map_map]
  rfl
theorem eLc_rla {α : Type} {vs : List Nat} {fi : IF} {g : GF} {fe : EF} {δ : Sl} {μ : MH} {l : List α} (y : α → D) (hfi : fi δ μ = .ok (fun _ => true, rngD 0 l.length) μ) (hl : l.length ≤ 1000)
    (h : ∀ (i : Nat) a, l[i]? = some a → ∀ acc, ∃ δ2, g (.int i) (wipeD δ vs) (μ ++ [some (.lst acc)]) = .ok δ2 (μ ++ [some (.lst acc)]) ∧ fe δ2 (μ ++ [some (.lst acc)]) = .ok (y a) (μ ++ [some (.lst acc)]))
    (hb : ∀ a ∈ l, (y a).bel μ.length = true) : eLc vs fi g tYesD fe δ μ = .ok (.lst (l.map y)) μ := by
  rw [eLc_rl (fun _ => true) y hfi hl (fun i a ha acc => ?_) fun a ha _ => hb a ha]
  · rw [List.filter_eq_self.mpr (by simp)]
  · obtain ⟨δ2, h1, h2⟩ := h i a ha acc
    exact ⟨δ2, h1, rfl, fun _ => h2⟩
/-- the same data are equal -/
theorem ne_self {d : D} {p : PyData} {μ : MH} (h : py d = some p) (hd : p.depth ≤ 64) : eqD true d d μ = .ok (.bl false) μ := eqD_self h hd
theorem qD_ne {q : Rat} {μ : MH} : eqD true (qD q) (qD q) μ = .ok (.bl false) μ := eqD_self (qD_py q) (by simp [PyData.depth, PyData.depthAll])
theorem zDs_ne {l : List St} {μ : MH} : eqD true (.lst (l.map zD)) (.lst (l.map zD)) μ = .ok (.bl false) μ := by
  have hp : py (.lst (l.map zD)) = some (.list (l.map stP)) := by simp [py, pys_of py_zD]
  refine eqD_self hp ?_
  have : PyData.depthAll (l.map stP) ≤ 2 := by
    clear hp
    induction l with
    | nil => simp [PyData.depthAll]
    | cons a l ih => simp only [List.map_cons, deps_cons, dep_stP]; omega
  simp [PyData.depth]
  omega
/-- index of a list of one kind -/
theorem ix_map {α : Type} {enc : α → D} {l : List α} {i : Nat} {a : α} {μ : MH} (h : l[i]? = some a) : ixD (.lst (l.map enc)) (.int i) μ = .ok (enc a) μ := by simp [h]
end SZ
end
section
/-! SK: standings, outcomes of any value. -/
namespace SZ
open PySem PySem.Spec PySem.W U
def mvP (m : W3 × Rat × St) : PyData := .tuple [.str (wS m.1), .tuple [.int m.2.1.num, .int m.2.1.den], stP m.2.2]
theorem py_mvD (m) : py (mvD m) = some (mvP m) := rfl
theorem dep_mvP (m) : (mvP m).depth = 3 := by simp [mvP, PyData.depth, PyData.depthAll, dep_stP]
theorem depAll_le {α : Type} {p : α → PyData} {n : Nat} (h : ∀ a, (p a).depth ≤ n) : ∀ l : List α, PyData.depthAll (l.map p) ≤ n
  | [] => by simp [PyData.depthAll]
  | a :: l => by simp only [List.map_cons, deps_cons]; have := h a; have := depAll_le h l; omega
theorem encs_ne {α : Type} {enc : α → D} {p : α → PyData} {n : Nat} (hp : ∀ a, py (enc a) = some (p a)) (hd : ∀ a, (p a).depth ≤ n) (hn : n ≤ 60) {l : List α} {neg : Bool} {μ : MH} : eqD neg (.lst (l.map enc)) (.lst (l.map enc)) μ = .ok (.bl (!neg)) μ := by
  have h : py (.lst (l.map enc)) = some (.list (l.map p)) := by simp [py, pys_of hp]
  refine eqD_self h ?_
  have := depAll_le hd l
  simp [PyData.depth]
  omega
theorem mvDs_ne {l : List (W3 × Rat × St)} {μ : MH} : eqD true (.lst (l.map mvD)) (.lst (l.map mvD)) μ = .ok (.bl false) μ := encs_ne py_mvD (n := 3) (fun m => by rw [dep_mvP]; omega) (by omega)
def isBlB : D → Bool
  | .bl _ => true
  | _ => false
def isPairB : D → Bool
  | .tup [a, b] => isFromB a 0 5 && isBlB b
  | _ => false
theorem is_bl {d : D} (h : plainD d = true) {μ : MH} {f : EF} {δ : Sl} (hf : f δ μ = .ok d μ) : eIsi "bool" f δ μ = .ok (.bl (isBlB d)) μ := by
  cases d <;> simp [hf, tyN, isT, isBlB] <;> cases h
theorem is_pair_gen {d : D} {μ : MH} (h : plainD d = true) (hp : ∀ l, d = .tup l → plains l) : F_is_pair [d] μ = .ok (.bl (isPairB d)) μ := by
  cases d with
  | tup l =>
    have hl := hp l rfl
    by_cases h2 : l.length = 2
    · match l, h2 with
      | [a, b], _ =>
        have ea := is_from_ok a (hl a (by simp)) 0 5 μ
        have hb := hl b (by simp)
        cases hx : isFromB a 0 5 with
        | false => rw [hx] at ea; simp [F_is_pair, fnB, tyN, isT, ea, isPairB, hx]
        | true =>
          rw [hx] at ea
          have : eIsi "bool" (eB ixD (eVar 0) (eC (.int 1))) [some (.tup [a, b])] μ = .ok (.bl (isBlB b)) μ := is_bl hb (by simp)
          have e2 : eIsi "tuple" (eVar 0) [some (.tup [a, b])] μ = .ok (.bl true) μ := by simp [tyN, isT]
          have i0 : ixD (.tup [a, b]) (.int 0) μ = .ok a μ := by simp
          simp [F_is_pair, fnB, ea, isPairB, hx, -eIsi, -ixD, this, e2, i0]
    · have h2' : ¬ ((l.length : Int) = 2) := by omega
      have : isPairB (.tup l) = false := by
        match l, h2 with
        | [], _ => rfl
        | [a], _ => rfl
        | [a, b], h => simp at h
        | a :: b :: c :: r, _ => rfl
      rw [this]
      simp [F_is_pair, fnB, tyN, isT, h2']
  | non => simp [F_is_pair, fnB, tyN, isT, isPairB]
  | bl b => simp [F_is_pair, fnB, tyN, isT, isPairB]
  | int b => simp [F_is_pair, fnB, tyN, isT, isPairB]
  | str b => simp [F_is_pair, fnB, tyN, isT, isPairB]
  | lst b => simp [F_is_pair, fnB, tyN, isT, isPairB]
  | _ => cases h
/-- a value that is no standing -/
def NoSt (bs : List Bn) (d : D) : Prop := ∀ kp μ, F_is_standing [bkN bs kp, d] μ = .ok (.bl false) μ
theorem nost_ty {bs : List Bn} {d : D} (h : ∀ μ, tyN μ d = some "NoneType" ∨ tyN μ d = some "str" ∨ tyN μ d = some "int" ∨ tyN μ d = some "bool" ∨ tyN μ d = some "list") : NoSt bs d := fun kp μ => no_standing (h μ)
theorem nost_len {bs : List Bn} {l : List D} (h : l.length ≠ 2) : NoSt bs (.tup l) := fun kp μ => by
  have h' : ¬ ((l.length : Int) = 2) := by omega
  simp [F_is_standing, fnB, tyN, isT, h']
theorem nost_pair {bs : List Bn} {x y : D} (hx : plainD x = true) (hxl : ∀ l, x = .tup l → plains l) (hy : plainD y = true) (hyl : ∀ l, y = .tup l → plains l) (h : isPairB x = false ∨ isPairB y = false) : NoSt bs (.tup [x, y]) := fun kp μ => by
  have ex := is_pair_gen (μ := μ) hx hxl
  have ey := is_pair_gen (μ := μ) hy hyl
  cases h1 : isPairB x with
  | false => rw [h1] at ex; simp [F_is_standing, fnB, tyN, isT, ex]
  | true =>
    rw [h1] at ex
    have h2 : isPairB y = false := by simpa [h1] using h
    rw [h2] at ey
    simp [F_is_standing, fnB, tyN, isT, ex, ey]
theorem standings_ok {bs : List Bn} {kp : List Int} {μ : MH} (ok : OkB bs) : F_standings [bkN bs kp] μ = .ok (.lst ((allS bs false fst0).map zD)) μ := by
  obtain ⟨f, e, h1, h2⟩ := standings_of_ok kp ok μ
  have hin : ∀ t ∈ f, InB t := fun t ht => ((h2 t).mp ht).inb ok fst_in
  have hs := srt_st h1 hin
  rw [stOf_congr h2] at hs
  change srtL (f.map zD) = some ((allS bs false fst0).map zD) at hs
  have hb1 : bels μ.length ((allS bs false fst0).map zD) = true := bels_map (fun _ => zD_bel) _
  generalize f.map zD = A at *
  generalize f.map (tt : St → D) = B at *
  generalize (allS bs false fst0).map zD = C at *
  simp [F_standings, fnB, e, eSrtK, srtK, hs, D.bel, hb1]
theorem check_box {bs : List Bn} {kp : List Int} {i : Nat} {μ : MH} (h : i < bs.length) : F_check_number [.int i, .int 0, .int ((bs.length : Int) - 1)] μ = .ok .non μ := by
  rw [check_number_ok rfl, if_pos]
  simp only [isFromB, Bool.and_eq_true, decide_eq_true_eq]
  omega
theorem outcomes_ok {bs : List Bn} {kp : List Int} {i : Nat} {b : Bn} {s : St} {μ : MH} (ok : OkB bs) (hs : Rch bs false fst0 s) (hb : bs[i]? = some b) : F_outcomes [bkN bs kp, zD s, .int i] μ = .ok (.lst ((mvs b s).map mvD)) μ := by
  have e0 : ∀ μ, fldD ct "told" (bkN bs kp) μ = .ok (.tup ((bs.map Bn.bx).map Bx.enc)) μ := fun μ => fld_told
  have hl := told_len (bs := bs)
  generalize (bs.map Bn.bx).map Bx.enc = L at e0 hl
  have e1 := check_standing_ok (kp := kp) (μ := μ) ok hs
  have e2 := check_box (bs := bs) (kp := kp) (i := i) (μ := μ) (List.getElem?_eq_some_iff.mp hb).1
  have e3 := moves_of_ok (kp := kp) (s := s) (μ := μ) hb (ok.2 b (List.mem_of_getElem? hb))
  have hb1 : bels μ.length ((mvs b s).map mvD) = true := bels_map (fun m => by simp [mvD, D.bel, bels, qD_bel, zD_bel]) _
  generalize (mvs b s).map mvD = C at *
  simp [F_outcomes, fnB, -fldD, e0, hl, e1, e2, e3, D.bel, hb1]
theorem outcomes_st {bs : List Bn} {kp : List Int} {d x : D} {μ : MH} (h : NoSt bs d) : F_outcomes [bkN bs kp, d, x] μ = .ex 8 [] μ := by
  have e1 := check_standing_bad (h kp μ)
  simp [F_outcomes, fnB, e1]
theorem outcomes_no {bs : List Bn} {kp : List Int} {x : D} {s : St} {μ : MH} (ok : OkB bs) (hs : Rch bs false fst0 s) (hp : plainD x = true) (hx : isFromB x 0 ((bs.length : Int) - 1) = false) : F_outcomes [bkN bs kp, zD s, x] μ = .ex 9 [] μ := by
  have e0 : ∀ μ, fldD ct "told" (bkN bs kp) μ = .ok (.tup ((bs.map Bn.bx).map Bx.enc)) μ := fun μ => fld_told
  have hl := told_len (bs := bs)
  generalize (bs.map Bn.bx).map Bx.enc = L at e0 hl
  have e1 := check_standing_ok (kp := kp) (μ := μ) ok hs
  have e2 := check_number_ok (d := x) (lo := 0) (hi := (bs.length : Int) - 1) (μ := μ) hp
  rw [hx, if_neg (by decide)] at e2
  simp [F_outcomes, fnB, -fldD, e0, hl, e1, e2]
end SZ
end
section
/-! SL: greatest, least; costs; a heap with one object that changes. -/
namespace SZ
open PySem PySem.Spec PySem.W U
/-! ### greatest, least -/
theorem gl_loop {F : FF} {f : Rat → Rat → Rat} {d0 : D} {μ : MH} {stp : SF} {chk : MH → Bool} (hc : chk μ = true) (hs : ∀ (o : Option D) (a b : Rat), Sm a → Sm b → stp [some d0, some (qD a), some (qD b)] μ = .nx [some d0, some (qD (f a b)), some (qD b)] μ) (hf : ∀ a b, Sm a → Sm b → Sm (f a b)) :
    ∀ (l : List Rat) (a : Rat) (o : Option D), Sm a → (∀ x ∈ l, Sm x) → ∃ o', sForL chk (gNm 2) stp (l.map qD) [some d0, some (qD a), o] μ = .nx [some d0, some (qD (l.foldl f a)), o'] μ
  | [], a, o, _, _ => ⟨o, by simp [sForL, hc]⟩
  | b :: l, a, o, ha, h => by
    have hb := h b (by simp)
    obtain ⟨o', e⟩ := gl_loop (F := F) hc hs hf l (f a b) (some (qD b)) (hf a b ha hb) fun x hx => h x (List.mem_cons_of_mem _ hx)
    refine ⟨o', ?_⟩
    simp only [List.map_cons, sForL, hc, if_true, gNm, List.foldl_cons]
    have := hs o a b ha hb
    have es : ([some d0, some (qD a), o] : Sl).set 2 (some (qD b)) = [some d0, some (qD a), some (qD b)] := rfl
    rw [es, this]
    exact e
theorem mx_sm {a b : Rat} (ha : Sm a) (hb : Sm b) : Sm (mx a b) := by unfold mx; split <;> assumption
theorem mn_sm {a b : Rat} (ha : Sm a) (hb : Sm b) : Sm (mn a b) := by unfold mn; split <;> assumption
theorem cut1 {α : Type} {a : α} {l : List α} : cutD (a :: l) (some 1) none = l := by
  unfold cutD HT.sIx
  simp
theorem qds_bel {n : Nat} {l : List Rat} : bels n (l.map qD) = true := bels_map (fun _ => qD_bel) l
theorem greatest_ok {a : Rat} {l : List Rat} {μ : MH} (h : ∀ x ∈ a :: l, Sm x) : F_greatest [.lst ((a :: l).map qD)] μ = .ok (qD (gre (a :: l))) μ := by
  have ht0 : ∀ d : D, trunc μ (R.ok d μ) = .ok d μ := fun i => trunc_len rfl
  have ha := h a (by simp)
  obtain ⟨o', e⟩ := gl_loop (F := F_greatest) (f := mx) (d0 := .lst ((a :: l).map qD)) (μ := μ) (chk := fun μ => sameL μ (.lst (l.map qD)) (l.map qD)) (stp := (sSeq (sAsg (eIf (tVal (eCall F_is_less (aCons (eVar 1) (aCons (eVar 2) (aNil))))) (eVar 2) (eVar 1)) (gNm 1)) (sNil))) (by simp) (fun o a b ha hb => by
    have := is_less_ok (μ := μ) ha hb
    unfold mx
    by_cases q : a < b <;> simp [this, q]) (fun a b => mx_sm) l a none ha fun x hx => h x (List.mem_cons_of_mem _ hx)
  have el : L_greatest_1 [some (.lst ((a :: l).map qD)), some (qD a), none] μ = .nx [some (.lst ((a :: l).map qD)), some (qD (l.foldl mx a)), o'] μ := by
    unfold L_greatest_1 sFor
    have : iSq (eSl (eVar 0) (oSo (eC (.int 1))) (oNo)) [some (.lst ((a :: l).map qD)), some (qD a), none] μ = .ok (fun μ => sameL μ (.lst (l.map qD)) (l.map qD), l.map qD) μ := by
      have : cutD ((a :: l).map qD) (some 1) none = l.map qD := cut1
      simp only [List.map_cons] at this ⊢
      simp [this]
    rw [this]
    exact e
  have e0 : ixD (.lst ((a :: l).map qD)) (.int 0) μ = .ok (qD a) μ := by simp
  have eg : gre (a :: l) = l.foldl mx a := rfl
  rw [eg]
  generalize (a :: l).map qD = L at *
  simp [F_greatest, fnB, -ixD, e0, el, ht0]
theorem least_ok {a : Rat} {l : List Rat} {μ : MH} (h : ∀ x ∈ a :: l, Sm x) : F_least [.lst ((a :: l).map qD)] μ = .ok (qD (lea (a :: l))) μ := by
  have ht0 : ∀ d : D, trunc μ (R.ok d μ) = .ok d μ := fun i => trunc_len rfl
  have ha := h a (by simp)
  obtain ⟨o', e⟩ := gl_loop (F := F_least) (f := mn) (d0 := .lst ((a :: l).map qD)) (μ := μ) (chk := fun μ => sameL μ (.lst (l.map qD)) (l.map qD)) (stp := (sSeq (sAsg (eIf (tVal (eCall F_is_less (aCons (eVar 2) (aCons (eVar 1) (aNil))))) (eVar 2) (eVar 1)) (gNm 1)) (sNil))) (by simp) (fun o a b ha hb => by
    have := is_less_ok (μ := μ) hb ha
    unfold mn
    by_cases q : b < a <;> simp [this, q]) (fun a b => mn_sm) l a none ha fun x hx => h x (List.mem_cons_of_mem _ hx)
  have el : L_least_1 [some (.lst ((a :: l).map qD)), some (qD a), none] μ = .nx [some (.lst ((a :: l).map qD)), some (qD (l.foldl mn a)), o'] μ := by
    unfold L_least_1 sFor
    have : iSq (eSl (eVar 0) (oSo (eC (.int 1))) (oNo)) [some (.lst ((a :: l).map qD)), some (qD a), none] μ = .ok (fun μ => sameL μ (.lst (l.map qD)) (l.map qD), l.map qD) μ := by
      have : cutD ((a :: l).map qD) (some 1) none = l.map qD := cut1
      simp only [List.map_cons] at this ⊢
      simp [this]
    rw [this]
    exact e
  have e0 : ixD (.lst ((a :: l).map qD)) (.int 0) μ = .ok (qD a) μ := by simp
  have eg : lea (a :: l) = l.foldl mn a := rfl
  rw [eg]
  generalize (a :: l).map qD = L at *
  simp [F_least, fnB, -ixD, e0, el, ht0]
theorem law_most_ok {a : Rat} {l : List Rat} {μ : MH} (h : ∀ x ∈ a :: l, Sm x) : F__law_most [.lst ((a :: l).map qD)] μ = .ok (qD (gre (a :: l))) μ := by
  have ht0 : ∀ d : D, trunc μ (R.ok d μ) = .ok d μ := fun i => trunc_len rfl
  have ha := h a (by simp)
  obtain ⟨o', e⟩ := gl_loop (F := F_greatest) (f := mx) (d0 := .lst ((a :: l).map qD)) (μ := μ) (chk := fun μ => sameL μ (.lst ((a :: l).map qD)) ((a :: l).map qD)) (stp := (sSeq (sIf (tVal (eCall F__law_less (aCons (eVar 1) (aCons (eVar 2) (aNil))))) (sSeq (sAsg (eVar 2) (gNm 1)) (sNil)) (sNil)) (sNil))) (by simp) (fun o a b ha hb => by
    have := law_less_ok (μ := μ) ha hb
    unfold mx
    by_cases q : a < b <;> simp [this, q]) (fun a b => mx_sm) (a :: l) a none ha fun x hx => h x hx
  have el : L__law_most_1 [some (.lst ((a :: l).map qD)), some (qD a), none] μ = .nx [some (.lst ((a :: l).map qD)), some (qD ((a :: l).foldl mx a)), o'] μ := by
    unfold L__law_most_1 sFor
    have : iSq (eVar 0) [some (.lst ((a :: l).map qD)), some (qD a), none] μ = .ok (fun μ => sameL μ (.lst ((a :: l).map qD)) ((a :: l).map qD), (a :: l).map qD) μ := by simp
    rw [this]
    exact e
  have e0 : ixD (.lst ((a :: l).map qD)) (.int 0) μ = .ok (qD a) μ := by simp
  have eg : gre (a :: l) = (a :: l).foldl mx a := by simp only [gre, List.foldl_cons, mx_self]; rfl
  rw [eg]
  generalize (a :: l).map qD = L at *
  simp only [List.foldl_cons] at el ⊢
  simp [F__law_most, fnB, -ixD, e0, el, ht0]
theorem law_least_ok {a : Rat} {l : List Rat} {μ : MH} (h : ∀ x ∈ a :: l, Sm x) : F__law_least [.lst ((a :: l).map qD)] μ = .ok (qD (lea (a :: l))) μ := by
  have ht0 : ∀ d : D, trunc μ (R.ok d μ) = .ok d μ := fun i => trunc_len rfl
  have ha := h a (by simp)
  obtain ⟨o', e⟩ := gl_loop (F := F_greatest) (f := mn) (d0 := .lst ((a :: l).map qD)) (μ := μ) (chk := fun μ => sameL μ (.lst ((a :: l).map qD)) ((a :: l).map qD)) (stp := (sSeq (sIf (tVal (eCall F__law_less (aCons (eVar 2) (aCons (eVar 1) (aNil))))) (sSeq (sAsg (eVar 2) (gNm 1)) (sNil)) (sNil)) (sNil))) (by simp) (fun o a b ha hb => by
    have := law_less_ok (μ := μ) hb ha
    unfold mn
    by_cases q : b < a <;> simp [this, q]) (fun a b => mn_sm) (a :: l) a none ha fun x hx => h x hx
  have el : L__law_least_1 [some (.lst ((a :: l).map qD)), some (qD a), none] μ = .nx [some (.lst ((a :: l).map qD)), some (qD ((a :: l).foldl mn a)), o'] μ := by
    unfold L__law_least_1 sFor
    have : iSq (eVar 0) [some (.lst ((a :: l).map qD)), some (qD a), none] μ = .ok (fun μ => sameL μ (.lst ((a :: l).map qD)) ((a :: l).map qD), (a :: l).map qD) μ := by simp
    rw [this]
    exact e
  have e0 : ixD (.lst ((a :: l).map qD)) (.int 0) μ = .ok (qD a) μ := by simp
  have eg : lea (a :: l) = (a :: l).foldl mn a := by simp only [lea, List.foldl_cons, mn_self]; rfl
  rw [eg]
  generalize (a :: l).map qD = L at *
  simp only [List.foldl_cons] at el ⊢
  simp [F__law_least, fnB, -ixD, e0, el, ht0]
/-! ### what a draw counts -/
def byD (t : Bool) : D := .str (if t then "tickets" else "draws")
def cst (t : Bool) (b : Bn) : Nat := if t then b.p else 1
theorem cst_pos {bs : List Bn} (ok : OkB bs) {t : Bool} : ∀ b ∈ bs, 1 ≤ cst t b := fun b hb => by
  unfold cst
  split
  · exact (ok.2 b hb).p.1
  · exact Nat.le_refl _
theorem by_eq {t : Bool} {μ : MH} : eqD false (byD t) (.str "draws") μ = .ok (.bl (!t)) μ := by
  unfold byD
  rw [U.str_eq]
  cases t <;> rfl
theorem cost_of_ok {bs : List Bn} {kp : List Int} {i : Nat} {b : Bn} {t : Bool} {μ : MH} (hb : bs[i]? = some b) : F_cost_of [bkN bs kp, .int i, byD t] μ = .ok (.int (cst t b : Nat)) μ := by
  have e0 : ∀ μ, fldD ct "told" (bkN bs kp) μ = .ok (.tup ((bs.map Bn.bx).map Bx.enc)) μ := fun μ => fld_told
  have e1 : ∀ μ, ixD (.tup ((bs.map Bn.bx).map Bx.enc)) (.int i) μ = .ok b.bx.enc μ := fun μ => ix_box hb
  have e2 : ∀ μ, ixD b.bx.enc (.int 1) μ = .ok (.int b.p) μ := fun μ => by simp [bx_enc]
  have e3 := by_eq (t := t) (μ := μ)
  generalize (bs.map Bn.bx).map Bx.enc = L at e0 e1
  generalize b.bx.enc = B at *
  cases t <;> simp [F_cost_of, fnB, -eqD, -ixD, -fldD, e0, e1, e2, e3, cst]
theorem law_cost_ok {bs : List Bn} {kp : List Int} {i : Nat} {b : Bn} {t : Bool} {μ : MH} (hb : bs[i]? = some b) : F__law_cost [dcN bs kp, .int i, byD t] μ = .ok (.int (cst t b : Nat)) μ := by
  have e0 : ∀ μ, ixD (dcN bs kp) (.str "boxes") μ = .ok (.tup ((bs.map Bn.bx).map Bx.enc)) μ := fun μ => ix_boxes
  have e1 : ∀ μ, ixD (.tup ((bs.map Bn.bx).map Bx.enc)) (.int i) μ = .ok b.bx.enc μ := fun μ => ix_box hb
  have e2 : ∀ μ, ixD b.bx.enc (.int 1) μ = .ok (.int b.p) μ := fun μ => by simp [bx_enc]
  have e3 := by_eq (t := t) (μ := μ)
  generalize (bs.map Bn.bx).map Bx.enc = L at e0 e1
  generalize b.bx.enc = B at *
  cases t <;> simp [F__law_cost, fnB, -eqD, -ixD, e0, e1, e2, e3, cst]
end SZ
end
section
/-! SM: a heap with one object that changes; what is known. -/
namespace SZ
open PySem PySem.Spec PySem.W U
/-- ν is μ but for the object m, which is one of P -/
def Cl (P : MO → Prop) (m : Nat) (μ ν : MH) : Prop := ∃ c, P c ∧ ν = μ.set m (some c)
theorem Cl.len {P : MO → Prop} {m : Nat} {μ ν : MH} (h : Cl P m μ ν) : ν.length = μ.length := by
  obtain ⟨c, _, rfl⟩ := h
  simp
theorem Cl.get {P : MO → Prop} {m : Nat} {μ ν : MH} (h : Cl P m μ ν) (hm : m < μ.length) : ∃ c, P c ∧ ν[m]? = some (some c) := by
  obtain ⟨c, hc, rfl⟩ := h
  exact ⟨c, hc, by simp [hm]⟩
theorem Cl.trans {P : MO → Prop} {m : Nat} {μ ν ξ : MH} (h : Cl P m μ ν) (h2 : Cl P m ν ξ) : Cl P m μ ξ := by
  obtain ⟨c, hc, rfl⟩ := h
  obtain ⟨c', hc', rfl⟩ := h2
  exact ⟨c', hc', by simp⟩
theorem Cl.refl {P : MO → Prop} {m : Nat} {μ : MH} {c : MO} (hc : P c) (h : μ[m]? = some (some c)) : Cl P m μ μ := by
  refine ⟨c, hc, ?_⟩
  have hm := (List.getElem?_eq_some_iff.mp h).1
  apply List.ext_getElem?
  intro i
  by_cases q : m = i
  · subst q; rw [h, List.getElem?_set_self hm]
  · rw [List.getElem?_set_ne q]
theorem Cl.app {P : MO → Prop} {m : Nat} {μ ν : MH} {more : MH} (hm : m < μ.length) (h : Cl P m (μ ++ more) ν) : ∃ μ', Cl P m μ μ' ∧ ν = μ' ++ more := by
  obtain ⟨c, hc, rfl⟩ := h
  exact ⟨μ.set m (some c), ⟨c, hc, rfl⟩, by rw [List.set_append, if_pos hm]⟩
theorem Cl.fr {P : MO → Prop} {m : Nat} {μ ν : MH} {more : MH} (hm : m < μ.length) (h : Cl P m μ ν) : Cl P m (μ ++ more) (ν ++ more) := by
  obtain ⟨c, hc, rfl⟩ := h
  exact ⟨c, hc, by rw [List.set_append, if_pos hm]⟩
theorem keep_cl {n m : Nat} {c : MO} (hc : c.bel n = true) : ∀ {μ : MH} {more : MH}, keepOk n μ (μ.set m (some c) ++ more) = true := by
  intro μ
  induction μ generalizing m with
  | nil => intro more; cases m <;> rfl
  | cons a r ih =>
    intro more
    cases m with
    | zero =>
      show (keep1 n a (some c) && keepOk n r (r ++ more)) = true
      rw [keepOk_self]
      cases a with
      | none => simp [keep1, hc]
      | some x => simp [keep1, hc]
    | succ m =>
      show (keep1 n a a && keepOk n r (r.set m (some c) ++ more)) = true
      rw [ih]
      cases a with
      | none => rfl
      | some x => simp [keep1, MO.beq_refl]
theorem trunc_cl {P : MO → Prop} (hP : ∀ c n, P c → c.bel n = true) {m : Nat} {μ ν : MH} {more : MH} {d : D} (h : Cl P m μ ν) (hd : d.bel μ.length = true) : trunc μ (.ok d (ν ++ more)) = .ok d ν := by
  obtain ⟨c, hc, rfl⟩ := h
  rw [trunc_gen hd (keep_cl (hP c _ hc))]
  rw [List.take_append_of_le_length (by simp)]
  congr 1
  exact List.take_of_length_le (by simp)
theorem trunc_cl0 {P : MO → Prop} {m : Nat} {μ ν : MH} {d : D} (h : Cl P m μ ν) : trunc μ (.ok d ν) = .ok d ν := trunc_len h.len
/-- a comprehension whose parts change the object m -/
theorem eLc_cl {α : Type} {P : MO → Prop} (hP : ∀ c n, P c → c.bel n = true) {m : Nat} {enc : α → D} {vs : List Nat} {fi : IF} {g : GF} {fe : EF} {δ : Sl} {μ : MH} {chk : MH → Bool} {l : List α} (y : α → D) (hm : m < μ.length) (h0 : Cl P m μ μ) (hfi : fi δ μ = .ok (chk, l.map enc) μ) (hl : l.length ≤ 1000) (hc : ∀ ν, chk ν = true)
    (h : ∀ a ∈ l, ∀ ν, m < ν.length → Cl P m ν ν → ∃ δ2 ν', g (enc a) (wipeD δ vs) ν = .ok δ2 ν ∧ fe δ2 ν = .ok (y a) ν' ∧ Cl P m ν ν')
    (hb : ∀ a ∈ l, (y a).bel μ.length = true) : ∃ ν, eLc vs fi g tYesD fe δ μ = .ok (.lst (l.map y)) ν ∧ Cl P m μ ν := by
  have key : ∀ (l : List α) (acc : List D) (ξ : MH), Cl P m μ ξ → acc.length + l.length ≤ 1000 → (∀ a ∈ l, ∀ ν, m < ν.length → Cl P m ν ν → ∃ δ2 ν', g (enc a) (wipeD δ vs) ν = .ok δ2 ν ∧ fe δ2 ν = .ok (y a) ν' ∧ Cl P m ν ν') →
      ∃ ξ', Cl P m μ ξ' ∧ lcL μ.length chk g tYesD fe (wipeD δ vs) (l.map enc) (ξ ++ [some (.lst acc)]) = .ok (.ref μ.length) (ξ' ++ [some (.lst (acc ++ l.map y))]) := by
    intro l
    induction l with
    | nil => intro acc ξ hx _ _; exact ⟨ξ, hx, by simp [lcL, hc]⟩
    | cons a r ih =>
      intro acc ξ hx hl h
      have hm2 : m < (ξ ++ [some (MO.lst acc)]).length := by simp [hx.len]; omega
      have hxx : Cl P m (ξ ++ [some (.lst acc)]) (ξ ++ [some (.lst acc)]) := by
        obtain ⟨c, hc, e⟩ := hx.get hm
        exact Cl.refl hc (by rw [List.getElem?_append_left (by rw [hx.len]; exact hm)]; exact e)
      obtain ⟨δ2, ν', h1, h2, h3⟩ := h a (by simp) _ hm2 hxx
      obtain ⟨ξ1, hx1, rfl⟩ := Cl.app (by rw [hx.len]; exact hm) h3
      obtain ⟨ξ', hx', e⟩ := ih (acc ++ [y a]) ξ1 (hx.trans hx1) (by simp at hl ⊢; omega) fun b hb => h b (List.mem_cons_of_mem _ hb)
      refine ⟨ξ', hx', ?_⟩
      rw [List.map_cons]
      unfold lcL
      rw [if_pos (hc _), h1]
      have hlen : ξ1.length = μ.length := by rw [hx1.len, hx.len]
      have e1 : (ξ1 ++ [some (MO.lst acc)])[μ.length]? = some (some (.lst acc)) := by rw [← hlen]; simp
      have hlt : acc.length < sizeLine := lt_size (by simp at hl; omega)
      have e2 : (ξ1 ++ [some (MO.lst acc)]).set μ.length (some (.lst (acc ++ [y a]))) = ξ1 ++ [some (.lst (acc ++ [y a]))] := by rw [← hlen]; simp
      simp only [tYesD, R.nox, R.bind, if_true, h2, e1, if_pos hlt, e2]
      rw [e]
      simp
  obtain ⟨ξ', hx', e⟩ := key l [] μ h0 (by simpa using hl) h
  refine ⟨ξ', ?_, hx'⟩
  simp only [eLc, hfi, R.bind]
  rw [e]
  have hlen := hx'.len
  have e1 : (ξ' ++ [some (MO.lst ([] ++ l.map y))])[μ.length]? = some (some (.lst ([] ++ l.map y))) := by rw [← hlen]; simp
  have e2 : (ξ' ++ [some (MO.lst ([] ++ l.map y))]).set μ.length none = ξ' ++ [none] := by rw [← hlen]; simp
  simp only [frzD, e1, e2]
  rw [List.nil_append]
  exact trunc_cl hP hx' (bels_all fun d hd => by
    obtain ⟨x, hx, rfl⟩ := List.mem_map.mp hd
    exact hb x hx)
/-! ### what is known: a dict by a function -/
/-- keys of one kind, the values told by f -/
def Kn {α : Type} (E : KE α) (ok : α → Prop) (f : α → D) (c : MO) : Prop := ∃ l : List α, l.Nodup ∧ (∀ a ∈ l, ok a) ∧ c = .dic true (l.map E.enc) (l.map f)
theorem Kn.bel {α : Type} {E : KE α} {ok : α → Prop} {f : α → D} (h1 : ∀ a n, (E.enc a).bel n = true) (h2 : ∀ a n, (f a).bel n = true) : ∀ c n, Kn E ok f c → c.bel n = true := by
  rintro c n ⟨l, _, _, rfl⟩
  simp only [MO.bel, bels_map (fun a => h1 a n), bels_map (fun a => h2 a n), Bool.and_self]
theorem kn_in {α : Type} [DecidableEq α] {E : KE α} {ok : α → Prop} {f : α → D} {c : MO} (h : Kn E ok f c) (a : α) {m : Nat} {ν : MH} (hm : ν[m]? = some (some c)) :
    (inD true (E.enc a) (.ref m) ν = .ok (.bl false) ν ∧ ixD (.ref m) (E.enc a) ν = .ok (f a) ν) ∨
    (inD true (E.enc a) (.ref m) ν = .ok (.bl true) ν ∧ (ok a → (∃ L : List α, (∀ a, ok a → a ∈ L) ∧ L.length < sizeLine) → ∃ c', Kn E ok f c' ∧ setD (.ref m) (E.enc a) (f a) ν = some (ν.set m (some c')) ∧ ixD (.ref m) (E.enc a) (ν.set m (some c')) = .ok (f a) (ν.set m (some c')))) := by
  obtain ⟨l, hn, hok, rfl⟩ := h
  have ko := E.ko a
  have e := dlook_fn E f a l
  by_cases q : a ∈ l
  · left
    rw [if_pos q] at e
    constructor
    · simp only [inD, seqOf, dicOf, hm, ko, e]; rfl
    · simp only [ixD, seqOf, dicOf, hm, ko, e]
  · right
    rw [if_neg q] at e
    constructor
    · simp only [inD, seqOf, dicOf, hm, ko, e]; rfl
    · rintro ha ⟨L, hL1, hL2⟩
      have hlen : l.length < sizeLine := Nat.lt_of_le_of_lt (hn.length_le_of_subset fun b hb => hL1 b (hok b hb)) hL2
      have hn' : (l ++ [a]).Nodup := List.nodup_append.mpr ⟨hn, by simp, fun x hx y hy => by
        simp at hy; subst hy; rintro rfl; exact q hx⟩
      refine ⟨.dic true ((l ++ [a]).map E.enc) ((l ++ [a]).map f), ⟨l ++ [a], hn', fun b hb => ?_, rfl⟩, ?_, ?_⟩
      · rcases List.mem_append.mp hb with hb | hb
        · exact hok b hb
        · simp at hb; subst hb; exact ha
      · have e2 := dput_fn E f q
        simp only [setD, hm, ko, e2, List.length_map, hlen, if_true]
      · have hml := (List.getElem?_eq_some_iff.mp hm).1
        have e3 := dlook_fn E f a (l ++ [a])
        rw [if_pos (by simp)] at e3
        have hg : (ν.set m (some (MO.dic true ((l ++ [a]).map E.enc) ((l ++ [a]).map f))))[m]? = some (some (.dic true ((l ++ [a]).map E.enc) ((l ++ [a]).map f))) := List.getElem?_set_self hml
        simp only [ixD, seqOf, dicOf, hg, ko, e3]
theorem dputv_fn {α : Type} (E : KE α) (f : α → D) (a : α) : ∀ l : List α, dputv (E.key a) (f a) (l.map E.enc) (l.map f) = l.map f
  | [] => rfl
  | b :: l => by
    simp only [List.map_cons, dputv, E.nk, Option.some.injEq]
    rw [dputv_fn E f a l]
    by_cases h : E.key b = E.key a
    · rw [if_pos h, E.inj _ _ h]
    · rw [if_neg h]
/-- put what is told anyway -/
theorem kn_put {α : Type} [DecidableEq α] {E : KE α} {ok : α → Prop} {f : α → D} {c : MO} (h : Kn E ok f c) (a : α) {m : Nat} {ν : MH} (hm : ν[m]? = some (some c)) (ha : ok a) (hL : ∃ L : List α, (∀ a, ok a → a ∈ L) ∧ L.length < sizeLine) :
    ∃ c', Kn E ok f c' ∧ setD (.ref m) (E.enc a) (f a) ν = some (ν.set m (some c')) ∧ ixD (.ref m) (E.enc a) (ν.set m (some c')) = .ok (f a) (ν.set m (some c')) := by
  obtain ⟨L, hL1, hL2⟩ := hL
  obtain ⟨l, hn, hok, rfl⟩ := h
  have ko := E.ko a
  have e := dlook_fn E f a l
  have hml := (List.getElem?_eq_some_iff.mp hm).1
  by_cases q : a ∈ l
  · rw [if_pos q] at e
    have hlen : l.length < sizeLine := Nat.lt_of_le_of_lt (hn.length_le_of_subset fun b hb => hL1 b (hok b hb)) hL2
    refine ⟨_, ⟨l, hn, hok, rfl⟩, ?_, ?_⟩
    · have e2 : dput (E.key a) (E.enc a) (f a) (l.map E.enc) (l.map f) = (l.map E.enc, l.map f) := by
        unfold dput
        rw [e]
        simp [dputv_fn]
      simp only [setD, hm, ko, e2, List.length_map, hlen, if_true]
    · have hg : (ν.set m (some (MO.dic true (l.map E.enc) (l.map f))))[m]? = some (some (.dic true (l.map E.enc) (l.map f))) := List.getElem?_set_self hml
      simp only [ixD, seqOf, dicOf, hg, ko, e]
  · rcases kn_in ⟨l, hn, hok, rfl⟩ a hm with ⟨h1, _⟩ | ⟨_, h2⟩
    · rw [if_neg q] at e
      simp only [inD, seqOf, dicOf, hm, ko, e] at h1
      cases h1
    · exact h2 ha ⟨L, hL1, hL2⟩
theorem kn_nil {α : Type} {E : KE α} {ok : α → Prop} {f : α → D} : Kn E ok f (.dic true [] []) := ⟨[], by simp, by simp, rfl⟩
/-! ### standings with a number -/
def snE : KE (St × Nat) where
  enc p := .tup [zD p.1, .int p.2]
  key p := .tup [sK p.1, .num p.2]
  nk p := by simp [nk, nks, nk_zD]
  ko p := by
    have hd : (NestedKey.tup [sK p.1, .num p.2]).depth ≤ 8 := by simp [sK, pK, bK, NestedKey.depth, NestedKey.depthAll]
    simp [nk, nks, nk_zD, hd]
  inj a b h := by
    simp at h
    exact Prod.ext (sK_inj h.1) (by omega)
theorem sn_all (N : Nat) (hN : N ≤ 100) : ∃ L : List (St × Nat), (∀ a : St × Nat, (InB a.1 ∧ a.2 ≤ N) → a ∈ L) ∧ L.length < sizeLine := by
  refine ⟨allSt.flatMap fun s => (List.range (N + 1)).map fun n => (s, n), fun a h => ?_, ?_⟩
  · exact List.mem_flatMap.mpr ⟨a.1, mem_all.mpr h.1, List.mem_map.mpr ⟨a.2, by simp; omega, rfl⟩⟩
  · have : ∀ l : List St, (l.flatMap fun s => (List.range (N + 1)).map fun n => (s, n)).length = l.length * (N + 1) := fun l => by
      induction l with
      | nil => simp
      | cons a l ih => simp only [List.flatMap_cons, List.length_append, ih, List.length_map, List.length_range, List.length_cons, Nat.add_mul]; omega
    rw [this, all_len]
    have : sizeLine = 2 ^ 24 := rfl
    omega
theorem sn_bel (a : St × Nat) (n : Nat) : (snE.enc a).bel n = true := by simp [snE, D.bel, bels, zD_bel]
end SZ
end
section
/-! SN: the program's chances within so many. -/
namespace SZ
open PySem PySem.Spec PySem.W U
/-- a for loop as a fold, the place told -/
theorem for_foldi {α T : Type} {chk : MH → Bool} {g : GF} {f : SF} {enc : α → D} {R : Nat → T → Sl → MH → Prop} {step : T → α → T} (hc : ∀ i t δ μ, R i t δ μ → chk μ = true) :
    ∀ (l : List α) (i : Nat), (∀ j t a δ μ, l[j]? = some a → R (i + j) t δ μ → ∃ δ1 μ1 δ2 μ2, g (enc a) δ μ = .ok δ1 μ1 ∧ (f δ1 μ1 = .nx δ2 μ2 ∨ f δ1 μ1 = .ct δ2 μ2) ∧ R (i + j + 1) (step t a) δ2 μ2) → ∀ (t : T) (δ : Sl) (μ : MH), R i t δ μ →
      ∃ δ' μ', sForL chk g f (l.map enc) δ μ = .nx δ' μ' ∧ R (i + l.length) (l.foldl step t) δ' μ'
  | [], i, _, t, δ, μ, h => ⟨δ, μ, by simp [sForL, hc i t δ μ h], h⟩
  | a :: l, i, hs, t, δ, μ, h => by
    obtain ⟨δ1, μ1, δ2, μ2, e1, e2, h2⟩ := hs 0 t a δ μ (by simp) h
    obtain ⟨δ', μ', e3, h3⟩ := for_foldi hc l (i + 1) (fun j t b δ μ hb hr => by
      have := hs (j + 1) t b δ μ (by simpa using hb) (by rw [show i + (j + 1) = i + 1 + j by omega]; exact hr)
      rw [show i + (j + 1) + 1 = i + 1 + j + 1 by omega] at this
      exact this) (step t a) δ2 μ2 h2
    refine ⟨δ', μ', ?_, by rw [show i + (a :: l).length = i + 1 + l.length by simp; omega]; exact h3⟩
    simp only [List.map_cons, sForL, hc i t δ μ h, if_true, e1]
    rcases e2 with e2 | e2 <;> rw [e2] <;> exact e3
theorem mvD_w (m : W3 × Rat × St) : mvD m = .tup [.str (wS m.1), qD m.2.1, zD m.2.2] := rfl
theorem fix2 : fix "book" (ct 2) = some 0 ∧ fix "by" (ct 2) = some 1 ∧ fix "known" (ct 2) = some 2 := by decide +kernel
def wO (bs : List Bn) (kp : List Int) (t : Bool) (m : Nat) : D := .obj 2 [bkN bs kp, byD t, .ref m]
theorem wO_book {bs kp t m} {ν : MH} : fldD ct "book" (wO bs kp t m) ν = .ok (bkN bs kp) ν := by simp [wO, fix2.1]
theorem wO_by {bs kp t m} {ν : MH} : fldD ct "by" (wO bs kp t m) ν = .ok (byD t) ν := by simp [wO, fix2.2.1]
theorem wO_known {bs kp t m} {ν : MH} : fldD ct "known" (wO bs kp t m) ν = .ok (.ref m) ν := by simp [wO, fix2.2.2]
theorem wO_ins {bs kp t m} {ν : MH} : insOf ν (wO bs kp t m) = some (2, [bkN bs kp, byD t, .ref m]) := rfl
/-- what Within knows -/
abbrev WK (bs : List Bn) (t : Bool) : MO → Prop := Kn snE (fun a => InB a.1 ∧ a.2 ≤ 20) (fun a => qD (Wd bs (cst t) a.1 a.2))
theorem WK_bel (bs : List Bn) (t : Bool) : ∀ c n, WK bs t c → c.bel n = true := Kn.bel sn_bel (fun _ _ => qD_bel)
theorem mvs_bd' {bs : List Bn} (ok : OkB bs) : ∀ b ∈ bs, ∀ s, ∀ m ∈ mvs b s, Bd 4 1 m.2.1 := fun b hb s m hm => mvs_bd (ok.2 b hb) hm
theorem Wd_bd20 {bs : List Bn} (ok : OkB bs) {t : Bool} {n : Nat} (hn : n ≤ 20) (s : St) : Bd 80 (3 ^ 20) (Wd bs (cst t) s n) :=
  (Wd_bd ok (cst_pos ok) (mvs_bd' ok) n s).up (by omega) (Nat.pow_le_pow_right (by decide) hn)
theorem wished_eq {w : W3} {μ : MH} : eqD false (.str (wS w)) C_WISHED μ = .ok (.bl (isW w)) μ := wS_isW
/-- what Within.of answers, with n left, at fuel k -/
def OfOk (bs : List Bn) (kp : List Int) (t : Bool) (m n k : Nat) : Prop := ∀ s, InB s → ∀ ν : MH, m < ν.length → Cl (WK bs t) m ν ν → ∃ ν', F_Within_of k [wO bs kp t m, zD s, .int n] ν = .ok (qD (Wd bs (cst t) s n)) ν' ∧ Cl (WK bs t) m ν ν'
theorem wb_loop {bs : List Bn} {kp : List Int} {t : Bool} {m n' k i : Nat} {b : Bn} {s : St} {x : D} (ok : OkB bs) (hb : bs[i]? = some b) (hs : InB s) (hn : n' ≤ 20) (hof : OfOk bs kp t m n' k) {ν : MH} (hm : m < ν.length) (h0 : Cl (WK bs t) m ν ν) :
    ∃ o6 o7 o8 ν', L_Within_of_box_1 k [some (wO bs kp t m), some (zD s), some x, some (.int i), some (.int n'), some (qD 0), none, none, none] ν =
      .nx [some (wO bs kp t m), some (zD s), some x, some (.int i), some (.int n'), some (qD (wsum (fun q => if isW q.1 then 1 else Wd bs (cst t) q.2.2 n') (mvs b s))), o6, o7, o8] ν' ∧ Cl (WK bs t) m ν ν' := by
  have okb := ok.2 b (List.mem_of_getElem? hb)
  have em := moves_of_ok (kp := kp) (s := s) (μ := ν) hb okb
  have hl3 := mvs_len (b := b) s
  have e0 : ∀ ν, fldD ct "book" (wO bs kp t m) ν = .ok (bkN bs kp) ν := fun ν => wO_book
  unfold L_Within_of_box_1 sFor
  have hi : iSq (eCall F_moves_of (aCons (eFld ct "book" (eVar 0)) (aCons (eVar 1) (aCons (eVar 3) (aNil))))) [some (wO bs kp t m), some (zD s), some x, some (.int i), some (.int n'), some (qD 0), none, none, none] ν = .ok (fun μ => sameL μ (.lst ((mvs b s).map mvD)) ((mvs b s).map mvD), (mvs b s).map mvD) ν := by
    generalize (mvs b s).map mvD = A at *
    simp [-fldD, e0, em]
  rw [hi]
  simp only [R.to]
  obtain ⟨δ', ν', e, h1, h2⟩ := for_foldi (enc := mvD) (T := Rat) (chk := fun μ => sameL μ (.lst ((mvs b s).map mvD)) ((mvs b s).map mvD)) (g := gTp 3 (gsCons (gNm 6) (gsCons (gNm 7) (gsCons (gNm 8) (gsNil))))) (f := (sSeq (sAsg (eCall F_plus (aCons (eVar 5) (aCons (eCall F_times (aCons (eVar 7) (aCons (eIf (tVal (eB (eqD false) (eVar 6) (eC C_WISHED))) (eC C_ONE) (eMeth 2 (F_Within_of k) (eVar 0) (aCons (eVar 8) (aCons (eVar 4) (aNil))))) (aNil)))) (aNil)))) (gNm 5)) (sNil)))
    (R := fun j q δ ξ => j ≤ 3 ∧ Bd (4 + 80) (j * 3 ^ 20) q ∧ Cl (WK bs t) m ν ξ ∧ ∃ o6 o7 o8, δ = [some (wO bs kp t m), some (zD s), some x, some (.int i), some (.int n'), some (qD q), o6, o7, o8]) (step := fun q m => q + m.2.1 * (if isW m.1 then 1 else Wd bs (cst t) m.2.2 n'))
    (fun _ _ _ _ _ => by simp) (mvs b s) 0 (fun j q mv δ ξ hj hr => by
      obtain ⟨hj3, hq, hx, o6, o7, o8, rfl⟩ := hr
      have hmm := List.mem_of_getElem? hj
      have hlt := (List.getElem?_eq_some_iff.mp hj).1
      have hbd := mvs_bd okb hmm
      have hin := mvs_in okb hs hmm
      have hval : Bd 80 (3 ^ 20) (if isW mv.1 then 1 else Wd bs (cst t) mv.2.2 n') := by
        split
        · exact (Bd.nat 1).up (by decide) (by decide)
        · exact Wd_bd20 ok hn _
      have hq2 := (hq.add (hbd.mul hval)).up (Nat.le_refl _) (show (0 + j) * 3 ^ 20 + 1 * 3 ^ 20 ≤ (0 + j + 1) * 3 ^ 20 by rw [Nat.add_mul _ 1]; omega)
      have hxm : m < ξ.length := by rw [hx.len]; exact hm
      have hxx : Cl (WK bs t) m ξ ξ := by
        obtain ⟨c, hc, e⟩ := hx.get hm
        exact Cl.refl hc e
      have ew : ∀ μ, eqD false (.str (wS mv.1)) C_WISHED μ = .ok (.bl (isW mv.1)) μ := fun μ => wished_eq
      have h10 : 3 * 3 ^ 20 ≤ 1000000000000 := by decide
      have hj3' : (0 + j) * 3 ^ 20 ≤ 1000000000000 := Nat.le_trans (Nat.mul_le_mul_right _ (show 0 + j ≤ 3 by omega)) h10
      have sq := hq.small (by decide) hj3'
      have sv := hval.small (by decide) (Nat.le_trans (by decide) h10)
      have sp := hbd.small (by decide) (by decide)
      have spv := (hbd.mul hval).small (by decide) (by decide)
      obtain ⟨ξ', ev, hx'⟩ : ∃ ξ', eIf (tVal (eB (eqD false) (eVar 6) (eC C_WISHED))) (eC C_ONE) (eMeth 2 (F_Within_of k) (eVar 0) (aCons (eVar 8) (aCons (eVar 4) (aNil)))) [some (wO bs kp t m), some (zD s), some x, some (.int i), some (.int n'), some (qD q), some (.str (wS mv.1)), some (qD mv.2.1), some (zD mv.2.2)] ξ = .ok (qD (if isW mv.1 then 1 else Wd bs (cst t) mv.2.2 n')) ξ' ∧ Cl (WK bs t) m ξ ξ' := by
        cases hw : isW mv.1 with
        | true =>
          rw [hw] at ew
          refine ⟨ξ, ?_, hxx⟩
          simp [-eqD, -C_WISHED, -C_ONE, ew, q1]
        | false =>
          rw [hw] at ew
          obtain ⟨ξ', e, hx'⟩ := hof _ hin ξ hxm hxx
          refine ⟨ξ', ?_, hx'⟩
          have hins : ∀ ν, insOf ν (wO bs kp t m) = some (2, [bkN bs kp, byD t, .ref m]) := fun ν => rfl
          simp [-eqD, -C_WISHED, -C_ONE, -insOf, ew, hins, e]
      have et := times_ok (μ := ξ') sp sv
      have ep := plus_ok (μ := ξ') sq spv
      refine ⟨[some (wO bs kp t m), some (zD s), some x, some (.int i), some (.int n'), some (qD q), some (.str (wS mv.1)), some (qD mv.2.1), some (zD mv.2.2)], ξ, [some (wO bs kp t m), some (zD s), some x, some (.int i), some (.int n'), some (qD (q + mv.2.1 * (if isW mv.1 then 1 else Wd bs (cst t) mv.2.2 n'))), some (.str (wS mv.1)), some (qD mv.2.1), some (zD mv.2.2)], ξ', by rw [mvD_w]; simp, .inl ?_, by omega, hq2, hx.trans hx', _, _, _, rfl⟩
      generalize (if isW mv.1 then 1 else Wd bs (cst t) mv.2.2 n') = V at *
      simp only [sSeq, sAsg, eCall, aCons, aNil, eVar, List.getElem?_cons_succ, List.getElem?_cons_zero, R.bind] at ev ⊢
      simp only [ev, et, ep, R.bind, R.to, gNm, SR.seq, sNil]
      rfl) 0 _ ν ⟨by omega, Bd.zero, h0, none, none, none, rfl⟩
  obtain ⟨h2, h3, o6, o7, o8, rfl⟩ := h2
  exact ⟨o6, o7, o8, ν', e, h3⟩
end SZ
end
section
/-! SO: Within.of_box, Within.of, chance. -/
namespace SZ
open PySem PySem.Spec PySem.W U
theorem wb_eq (k : Nat) : F_Within_of_box (k + 1) = fnB 9 4 (sSeq (sAsg (eB subD (eVar 2) (eCall F_cost_of (aCons (eFld ct "book" (eVar 0)) (aCons (eVar 3) (aCons (eFld ct "by" (eVar 0)) (aNil)))))) (gNm 4)) (sSeq (sIf (tVal (eB ltD (eVar 4) (eC (.int 0)))) (sSeq (sRet (eC .non)) (sNil)) (sNil)) (sSeq (sAsg (eC C_ZERO) (gNm 5)) (sSeq (L_Within_of_box_1 k) (sSeq (sRet (eVar 5)) (sNil)))))) := by
  rw [F_Within_of_box]; rfl
theorem wo_eq (k : Nat) : F_Within_of (k + 1) = fnB 6 3 (sSeq (sIf (tVal (eB (inD true) (eTup (aCons (eVar 1) (aCons (eVar 2) (aNil)))) (eFld ct "known" (eVar 0)))) (sSeq (sAsg (K_Within_of_1 k) (gNm 3)) (sSeq (sPut (eCall F_greatest (aCons (eLst (aCons (eC C_ZERO) (aStar (K_Within_of_2 k) (aNil)))) (aNil))) (eFld ct "known" (eVar 0)) (eTup (aCons (eVar 1) (aCons (eVar 2) (aNil))))) (sNil))) (sNil)) (sSeq (sRet (eB ixD (eFld ct "known" (eVar 0)) (eTup (aCons (eVar 1) (aCons (eVar 2) (aNil)))))) (sNil))) := by
  rw [F_Within_of]; rfl
def boxR (bs : List Bn) (t : Bool) (s : St) (n : Nat) (b : Bn) : D := if cst t b ≤ n then qD (Wx bs (cst t) s n b) else .non
theorem boxR_bel {bs t s n b} {k : Nat} : (boxR bs t s n b).bel k = true := by
  unfold boxR
  split
  · exact qD_bel
  · rfl
theorem of_box_ok {bs : List Bn} {kp : List Int} {t : Bool} {m n k i : Nat} {b : Bn} {s : St} (ok : OkB bs) (hb : bs[i]? = some b) (hs : InB s) (hn : n ≤ 20) (hof : ∀ n', n' < n → OfOk bs kp t m n' k) {ν : MH} (hm : m < ν.length) (h0 : Cl (WK bs t) m ν ν) :
    ∃ ν', F_Within_of_box (k + 1) [wO bs kp t m, zD s, .int n, .int i] ν = .ok (boxR bs t s n b) ν' ∧ Cl (WK bs t) m ν ν' := by
  have e0 : ∀ ν, fldD ct "book" (wO bs kp t m) ν = .ok (bkN bs kp) ν := fun ν => wO_book
  have e1 : ∀ ν, fldD ct "by" (wO bs kp t m) ν = .ok (byD t) ν := fun ν => wO_by
  have ec := cost_of_ok (kp := kp) (t := t) (μ := ν) hb
  have hc := cst_pos ok (t := t) b (List.mem_of_getElem? hb)
  rw [wb_eq]
  unfold boxR
  by_cases q : cst t b ≤ n
  · rw [if_pos q]
    have hr : (n : Int) - (cst t b : Nat) = ((n - cst t b : Nat) : Int) := by omega
    obtain ⟨o6, o7, o8, ν', el, hx⟩ := wb_loop (x := .int n) (n' := n - cst t b) ok hb hs (by omega) (hof (n - cst t b) (by omega)) hm h0
    refine ⟨ν', ?_, hx⟩
    rw [q0] at el
    have hlt : ¬ ((n : Int) - (cst t b : Nat) < 0) := by omega
    unfold Wx
    generalize wsum _ (mvs b s) = V at *
    have ht : trunc ν (.ok (qD V) ν') = .ok (qD V) ν' := trunc_cl0 hx
    rw [hr] at hlt
    simp only [C_ZERO] at el
    simp [fnB, -fldD, e0, e1, ec, hr, hlt, el, ht]
  · rw [if_neg q]
    have hlt : ((n : Int) - (cst t b : Nat) < 0) := by omega
    refine ⟨ν, ?_, h0⟩
    have ht : trunc ν (.ok .non ν) = .ok .non ν := trunc_len rfl
    simp [fnB, -fldD, e0, e1, ec, hlt, ht]
theorem of_ok {bs : List Bn} {kp : List Int} {t : Bool} {m : Nat} (ok : OkB bs) (n : Nat) : n ≤ 20 → ∀ k, 2 * n + 2 ≤ k → OfOk bs kp t m n k := by
  induction n using Nat.strongRecOn with
  | _ n ih =>
    intro hn k hk s hs ν hm h0
    obtain ⟨k, rfl⟩ : ∃ j, k = j + 2 := ⟨k - 2, by omega⟩
    have hsn : snE.enc (s, n) = .tup [zD s, .int n] := rfl
    obtain ⟨c, hc, hg⟩ := h0.get hm
    have e0 : ∀ ν, fldD ct "book" (wO bs kp t m) ν = .ok (bkN bs kp) ν := fun ν => wO_book
    have e2 : ∀ ν, fldD ct "known" (wO bs kp t m) ν = .ok (.ref m) ν := fun ν => wO_known
    have hz2 : 2 ≤ sizeLine := le_size (by decide)
    rw [wo_eq]
    rcases kn_in hc (s, n) hg with ⟨hin, hix⟩ | ⟨hin, hput⟩
    · rw [hsn] at hin hix
      simp only at hix
      refine ⟨ν, ?_, h0⟩
      have ht : trunc ν (.ok (qD (Wd bs (cst t) s n)) ν) = .ok (qD (Wd bs (cst t) s n)) ν := trunc_len rfl
      simp [fnB, -fldD, -inD, -ixD, e2, hz2, hin, hix, ht]
    · rw [hsn] at hin
      have eI := indexes_ok (kp := kp) (μ := ν) ok
      have hl3 := ok.1.2
      -- the boxes
      have k1 : ∃ ν1, K_Within_of_1 (k + 1) [some (wO bs kp t m), some (zD s), some (.int n), none, none, none] ν = .ok (.lst (bs.map (boxR bs t s n))) ν1 ∧ Cl (WK bs t) m ν ν1 := by
        have er : rngD 0 bs.length = bs.zipIdx.map fun p : Bn × Nat => D.int p.2 := by
          refine List.ext_getElem? fun i => ?_
          simp only [rngD, List.getElem?_map, List.getElem?_zipIdx]
          by_cases hi : i < bs.length
          · simp [hi]
          · simp [hi]
        have em : bs.map (boxR bs t s n) = bs.zipIdx.map fun p => boxR bs t s n p.1 := by
          have : (bs.zipIdx.map (·.1)).map (boxR bs t s n) = bs.zipIdx.map fun p => boxR bs t s n p.1 := by rw [List.map_map]; rfl
          rw [← this]
          simp
        rw [em]
        unfold K_Within_of_1
        have hins : ∀ ν, insOf ν (wO bs kp t m) = some (2, [bkN bs kp, byD t, .ref m]) := fun ν => rfl
        refine eLc_cl (WK_bel bs t) (enc := fun p : Bn × Nat => D.int p.2) (chk := fun μ => sameL μ (.lst (rngD 0 bs.length)) (rngD 0 bs.length)) (l := bs.zipIdx) (fun p => boxR bs t s n p.1) hm h0 ?_ (by simp; omega) (fun _ => by simp) (fun p hp ξ hξ hξ0 => ?_) (fun _ _ => boxR_bel)
        · rw [← er]
          generalize rngD 0 bs.length = A at *
          simp [-fldD, e0, eI]
        · have hb := List.mem_zipIdx_iff_getElem?.mp hp
          obtain ⟨ξ', e, hx⟩ := of_box_ok (kp := kp) (k := k) ok hb hs hn (fun n' hn' => ih n' hn' (by omega) k (by omega)) hξ hξ0
          refine ⟨[some (wO bs kp t m), some (zD s), some (.int n), none, some (.int p.2), none], ξ', by simp [wipeD], ?_, hx⟩
          simp [-insOf, hins, e]
      obtain ⟨ν1, e1, hx1⟩ := k1
      have k2 : ∀ o, K_Within_of_2 (k + 1) [some (wO bs kp t m), some (zD s), some (.int n), some (.lst (bs.map (boxR bs t s n))), o, none] ν1 = .ok (.lst (((bs.filter fun b => decide (cst t b ≤ n)).map fun b => Wx bs (cst t) s n b).map qD)) ν1 := fun o => by
        unfold K_Within_of_2
        rw [List.map_map]
        refine eLc_enc (enc := boxR bs t s n) (chk := fun μ => sameL μ (.lst (bs.map (boxR bs t s n))) (bs.map (boxR bs t s n))) (l := bs) (fun b => decide (cst t b ≤ n)) (qD ∘ fun b => Wx bs (cst t) s n b) (by simp) (by omega) (fun _ => by simp) (fun b hb acc => ⟨[some (wO bs kp t m), some (zD s), some (.int n), some (.lst (bs.map (boxR bs t s n))), o, some (boxR bs t s n b)], by simp [wipeD], ?_, fun h => ?_⟩) (fun b _ _ => qD_bel)
        · unfold boxR
          by_cases q : cst t b ≤ n <;> simp [q, qD]
        · have q : cst t b ≤ n := of_decide_eq_true h
          simp [boxR, q]
      obtain ⟨c1, hc1, hg1⟩ := hx1.get hm
      have hsm : ∀ x ∈ (0 :: ((bs.filter fun b => decide (cst t b ≤ n)).map fun b => Wx bs (cst t) s n b)), Sm x := fun x hx => by
        rcases List.mem_cons.mp hx with rfl | hx
        · exact (Bd.zero (k := 0) (m := 0)).small (by decide) (by decide)
        · obtain ⟨b, hb', rfl⟩ := List.mem_map.mp hx
          obtain ⟨hb1, hb2⟩ := List.mem_filter.mp hb'
          have := Wx_bd' ok (n := n) (s := s) (fun n' _ s => Wd_bd ok (cst_pos ok) (mvs_bd' ok) n' s) (mvs_bd' ok) hb1 (cst_pos ok b hb1) (of_decide_eq_true hb2)
          exact this.small (by omega) (Nat.le_trans (Nat.pow_le_pow_right (by decide) hn) (by decide))
      have egr := greatest_ok (μ := ν1) hsm
      rw [← Wd_eq (cst_pos ok)] at egr
      rw [List.map_cons, q0] at egr
      have hfl : (((bs.filter fun b => decide (cst t b ≤ n)).map fun b => Wx bs (cst t) s n b).map qD).length + 1 ≤ sizeLine := le_size (by
        rw [List.length_map, List.length_map]
        have := List.length_filter_le (fun b => decide (cst t b ≤ n)) bs
        omega)
      generalize (((bs.filter fun b => decide (cst t b ≤ n)).map fun b => Wx bs (cst t) s n b).map qD) = B at *
      obtain ⟨c', hc', es, ex⟩ := kn_put hc1 (s, n) hg1 ⟨hs, hn⟩ (sn_all 20 (by decide))
      have hx2 : Cl (WK bs t) m ν (ν1.set m (some c')) := hx1.trans ⟨c', hc', rfl⟩
      rw [hsn] at es ex
      simp only at es ex
      have ht := trunc_cl0 (d := qD (Wd bs (cst t) s n)) hx2
      refine ⟨ν1.set m (some c'), ?_, hx2⟩
      have egr' : F_greatest [.lst (C_ZERO :: B)] ν1 = .ok (qD (Wd bs (cst t) s n)) ν1 := egr
      generalize ν1.set m (some c') = ν2 at *
      generalize bs.map (boxR bs t s n) = A at *
      simp only [C_ZERO] at egr'
      simp [fnB, -fldD, -inD, -ixD, -setD, e2, hz2, hin, e1, k2, hfl, egr', es, ex, ht]
end SZ
end
section
/-! SP: chance. -/
namespace SZ
open PySem PySem.Spec PySem.W U
theorem within_new {bs : List Bn} {kp : List Int} {t : Bool} {δ : Sl} {g : AF} {μ : MH} (hg : g δ μ = .ok [bkN bs kp, byD t] μ) : eMkF ct 2 F_Within_init [] g δ μ = .ok (wO bs kp t (μ.length + 1)) (μ ++ [none, some (.dic true [] [])]) := by
  have f0 := fix2.1
  have f1 := fix2.2.1
  have f2 := fix2.2.2
  have h3 : (ct 2).length = 3 := by rfl
  have hb := bkN_bel (bs := bs) (kp := kp) (n := μ.length + 1)
  have e : F_Within_init [.ref μ.length, bkN bs kp, byD t] (μ ++ [some (.ins 2 [])]) = .ok .non (μ ++ [some (.ins 2 [bkN bs kp, byD t, .ref (μ.length + 1)]), some (.dic true [] [])]) := by
    have ht : trunc (μ ++ [some (MO.ins 2 [])]) (.ok .non (μ ++ [some (.ins 2 [bkN bs kp, byD t, .ref (μ.length + 1)]), some (.dic true [] [])])) = .ok .non (μ ++ [some (.ins 2 [bkN bs kp, byD t, .ref (μ.length + 1)]), some (.dic true [] [])]) := by
      have hk : ∀ (n : Nat) (x y : Option MO) (more : MH) (μ : MH), keep1 n x y = false → keepOk n (μ ++ [x]) (μ ++ y :: more) = false := fun n x y more μ h => by
        induction μ with
        | nil => simp [keepOk, h]
        | cons a r ih => simp [keepOk, ih]
      unfold trunc
      simp only [D.bel, List.length_append, List.length_cons, List.length_nil, Bool.true_and]
      rw [hk _ _ _ [some (.dic true [] [])] μ (by simp [keep1, MO.beq, MO.bel, beqs, bels, D.bel])]
      rfl
    generalize bkN bs kp = K at *
    have hby : ∀ n, (byD t).bel n = true := fun _ => rfl
    generalize byD t = B at *
    simp [F_Within_init, fnB, stD, f0, f1, f2, two_set0]
    exact ht
  have ht : ∀ d n, d = D.obj 2 [bkN bs kp, byD t, .ref n] → μ.length ≤ n → ∀ ν, trunc μ (.ok d ν) = .ok d ν := fun d n hd hn ν => by
    subst hd
    unfold trunc
    have : D.bel μ.length (D.obj 2 [bkN bs kp, byD t, .ref n]) = false := by
      have hn' : ¬ n < μ.length := by omega
      simp [D.bel, bels, hn']
    show (if (D.bel μ.length (D.obj 2 [bkN bs kp, byD t, D.ref n]) && _) = true then _ else _) = _
    rw [this]
    rfl
  unfold eMkF
  rw [hg]
  simp only [R.bind, mkD, List.append_nil, e]
  have eg : (μ ++ [some (MO.ins 2 [bkN bs kp, byD t, .ref (μ.length + 1)]), some (MO.dic true [] [])])[μ.length]? = some (some (.ins 2 [bkN bs kp, byD t, .ref (μ.length + 1)])) := two_get0
  simp only [frzI, eg, h3, List.length_cons, List.length_nil]
  rw [if_pos (by simp), two_set0]
  exact ht _ _ rfl (by omega) _
theorem check_by_ok {t : Bool} {μ : MH} : F_check_by [byD t] μ = .ok .non μ := by
  have e : inD true (byD t) (.tup [.str "draws", .str "tickets"]) μ = .ok (.bl false) μ := by cases t <;> rfl
  have e2 : tyN μ (byD t) = some "str" := rfl
  have hz2 : 2 ≤ sizeLine := le_size (by decide)
  generalize byD t = B at *
  simp [F_check_by, fnB, -inD, e, e2, isT, hz2]
theorem check_by_bad {d : D} {μ : MH} (h : (∃ n, tyN μ d = some n ∧ isT n "str" = false) ∨ (∃ x : Str, d = .str x ∧ x ≠ "draws" ∧ x ≠ "tickets")) : F_check_by [d] μ = .ex 10 [] μ := by
  have hz2 : 2 ≤ sizeLine := le_size (by decide)
  rcases h with ⟨n, h1, h2⟩ | ⟨x, rfl, h1, h2⟩
  · simp [F_check_by, fnB, h1, h2]
  · have e : inD true (.str x) (.tup [.str "draws", .str "tickets"]) μ = .ok (.bl true) μ := by
      have n1 : ¬ (("draws" : Str) = x) := fun q => h1 q.symm
      have n2 : ¬ (("tickets" : Str) = x) := fun q => h2 q.symm
      simp [pys, PyData.depthAll, PyData.depth, n1, n2]
    simp [F_check_by, fnB, -inD, e, tyN, isT, hz2]
theorem within_run {bs : List Bn} {kp : List Int} {t : Bool} {n : Nat} {s : St} {μ : MH} (ok : OkB bs) (hs : InB s) (hn : n ≤ 20) {k : Nat} (hk : 42 ≤ k) : ∃ c, WK bs t c ∧ F_Within_of k [wO bs kp t (μ.length + 1), zD s, .int n] (μ ++ [none, some (.dic true [] [])]) = .ok (qD (Wd bs (cst t) s n)) (μ ++ [none, some c]) := by
  have h0 : Cl (WK bs t) (μ.length + 1) (μ ++ [none, some (.dic true [] [])]) (μ ++ [none, some (.dic true [] [])]) := Cl.refl kn_nil two_get1
  obtain ⟨ν', e, c, hc, rfl⟩ := of_ok (kp := kp) (m := μ.length + 1) ok n hn k (by omega) s hs _ (by simp) h0
  rw [two_set1] at e
  exact ⟨c, hc, e⟩
theorem chanceF_ok {bs : List Bn} {kp : List Int} {t : Bool} {n : Nat} {s : St} {μ : MH} (ok : OkB bs) (hs : Rch bs false fst0 s) (hn : n ≤ 20) : F_chance [bkN bs kp, zD s, byD t, .int n] μ = .ok (qD (Wd bs (cst t) s n)) μ := by
  have e1 := check_standing_ok (kp := kp) (μ := μ) ok hs
  have e2 := check_by_ok (t := t) (μ := μ)
  have e3 := check_number_in (n := n) (lo := 0) (hi := 20) (μ := μ) (by omega) hn
  have e3' : F_check_number [.int n, .int 0, .int 20] μ = .ok .non μ := e3
  obtain ⟨c, hc, e4⟩ := within_run (kp := kp) (t := t) (μ := μ) (k := 60) ok (hs.inb ok fst_in) hn (by decide)
  have en : eMkF ct 2 F_Within_init [] (aCons (eVar 0) (aCons (eVar 2) (aNil))) [some (bkN bs kp), some (zD s), some (byD t), some (.int n)] μ = .ok (wO bs kp t (μ.length + 1)) (μ ++ [none, some (.dic true [] [])]) := within_new (by simp)
  have hins : ∀ ν m, insOf ν (wO bs kp t m) = some (2, [bkN bs kp, byD t, .ref m]) := fun ν _ => rfl
  have ht : trunc μ (.ok (qD (Wd bs (cst t) s n)) (μ ++ [none, some c])) = .ok (qD (Wd bs (cst t) s n)) μ := trunc_ok qD_bel
  simp [F_chance, fnB, -eMkF, -insOf, e1, e2, e3', en, hins, e4, ht]
theorem chance_st {bs : List Bn} {kp : List Int} {d x y : D} {μ : MH} (h : NoSt bs d) : F_chance [bkN bs kp, d, x, y] μ = .ex 8 [] μ := by
  have e1 := check_standing_bad (h kp μ)
  simp [F_chance, fnB, e1]
theorem chance_by {bs : List Bn} {kp : List Int} {x y : D} {s : St} {μ : MH} (ok : OkB bs) (hs : Rch bs false fst0 s) (h : F_check_by [x] μ = .ex 10 [] μ) : F_chance [bkN bs kp, zD s, x, y] μ = .ex 10 [] μ := by
  have e1 := check_standing_ok (kp := kp) (μ := μ) ok hs
  simp [F_chance, fnB, e1, h]
theorem chance_num {bs : List Bn} {kp : List Int} {t : Bool} {y : D} {s : St} {μ : MH} (ok : OkB bs) (hs : Rch bs false fst0 s) (hp : plainD y = true) (hy : isFromB y 0 20 = false) : F_chance [bkN bs kp, zD s, byD t, y] μ = .ex 9 [] μ := by
  have e1 := check_standing_ok (kp := kp) (μ := μ) ok hs
  have e2 := check_by_ok (t := t) (μ := μ)
  have e3 := check_number_ok (d := y) (lo := 0) (hi := 20) (μ := μ) hp
  rw [hy, if_neg (by decide)] at e3
  simp [F_chance, fnB, e1, e2, e3]
end SZ
end
section
/-! SQ: the law's table of chances. -/
namespace SZ
open PySem PySem.Spec PySem.W U
/-- a row of the law's table: the standings with their chances within n -/
noncomputable def rowD (bs : List Bn) (t : Bool) (s0 : St) (n : Nat) : D := .dic true ((allS bs true s0).map zD) ((allS bs true s0).map fun s => qD (Wd bs (cst t) s n))
theorem row_ix {bs : List Bn} {t : Bool} {s0 s : St} {n : Nat} (h : s ∈ allS bs true s0) {μ : MH} : ixD (rowD bs t s0 n) (zD s) μ = .ok (qD (Wd bs (cst t) s n)) μ := by
  have e := dlook_fn stE (fun s => qD (Wd bs (cst t) s n)) s (allS bs true s0)
  rw [if_pos h] at e
  have ko := stE.ko s
  change keyOf true (zD s) = some (sK s) at ko
  change dlook (sK s) ((allS bs true s0).map zD) _ = _ at e
  simp only [rowD, ixD, seqOf, dicOf, ko, e]
theorem rowD_bel {bs : List Bn} {t : Bool} {s0 : St} {n k : Nat} : (rowD bs t s0 n).bel k = true := by
  simp only [rowD, D.bel, bels_map (fun _ => zD_bel), bels_map (fun _ => qD_bel), Bool.and_self]
noncomputable def rowsD (bs : List Bn) (t : Bool) (s0 : St) (n : Nat) : List D := (List.range n).map (rowD bs t s0)
theorem rows_ix {bs : List Bn} {t : Bool} {s0 : St} {n j : Nat} (h : j < n) : (rowsD bs t s0 n)[j]? = some (rowD bs t s0 j) := by simp [rowsD, h]
def ws (d a by_ : D) (N : Nat) (ev rw : D) (o6 o7 o8 o9 o10 o11 o12 o13 o14 o15 o16 : Option D) : Sl := [some d, some a, some by_, some (.int N), some ev, some rw, o6, o7, o8, o9, o10, o11, o12, o13, o14, o15, o16]
theorem lw_loop1 {bs : List Bn} {kp : List Int} {t : Bool} {n' i r N : Nat} {b : Bn} {s s0 : St} {a ev : D} {rows : List D} {o6 o7 o9 : Option D} {o13 o14 o15 o16 : Option D} (ok : OkB bs) (hb : bs[i]? = some b) (hs : s ∈ allS bs true s0) (h0 : InB s0) (hn : n' ≤ 20) {ν : MH} (hr : ν[r]? = some (some (.lst rows))) (hrow : rows[n']? = some (rowD bs t s0 n')) :
    ∃ p13 p14 p15 p16, L__law_within_1 (ws (dcN bs kp) a (byD t) N ev (.ref r) o6 o7 (some (zD s)) o9 (some (.int i)) (some (.int n')) (some (qD 0)) o13 o14 o15 o16) ν =
      .nx (ws (dcN bs kp) a (byD t) N ev (.ref r) o6 o7 (some (zD s)) o9 (some (.int i)) (some (.int n')) (some (qD (wsum (fun q => if isW q.1 then 1 else Wd bs (cst t) q.2.2 n') (mvs b s)))) p13 p14 p15 p16) ν := by
  have hbm := List.mem_of_getElem? hb
  have okb := ok.2 b hbm
  have hsr := (all_sub ok h0).mp hs
  have hsi := hsr.inb ok h0
  have em := law_moves_ok (kp := kp) (s := s) (μ := ν) hb okb
  have hl3 := mvs_len (b := b) s
  unfold L__law_within_1 sFor
  have hi : iSq (eCall F__law_moves (aCons (eVar 0) (aCons (eVar 8) (aCons (eVar 10) (aNil))))) (ws (dcN bs kp) a (byD t) N ev (.ref r) o6 o7 (some (zD s)) o9 (some (.int i)) (some (.int n')) (some (qD 0)) o13 o14 o15 o16) ν = .ok (fun μ => sameL μ (.lst ((mvs b s).map mvD)) ((mvs b s).map mvD), (mvs b s).map mvD) ν := by
    generalize (mvs b s).map mvD = A at *
    simp [ws, em]
  rw [hi]
  simp only [R.to]
  obtain ⟨δ', ν', e, h1, h2⟩ := for_foldi (enc := mvD) (T := Rat) (chk := fun μ => sameL μ (.lst ((mvs b s).map mvD)) ((mvs b s).map mvD)) (g := gTp 3 (gsCons (gNm 13) (gsCons (gNm 14) (gsCons (gNm 15) (gsNil))))) (f := (sSeq (sAsg (eIf (tVal (eB (eqD false) (eVar 13) (eC (.str "wished")))) (eTup (aCons (eC (.int 1)) (aCons (eC (.int 1)) (aNil)))) (eB ixD (eB ixD (eVar 5) (eVar 11)) (eVar 15))) (gNm 16)) (sSeq (sAsg (eCall F__law_plus (aCons (eVar 12) (aCons (eCall F__law_times (aCons (eVar 14) (aCons (eVar 16) (aNil)))) (aNil)))) (gNm 12)) (sNil))))
    (R := fun j q δ ξ => j ≤ 3 ∧ Bd (4 + 80) (j * 3 ^ 20) q ∧ ξ = ν ∧ ∃ p13 p14 p15 p16, δ = ws (dcN bs kp) a (byD t) N ev (.ref r) o6 o7 (some (zD s)) o9 (some (.int i)) (some (.int n')) (some (qD q)) p13 p14 p15 p16) (step := fun q m => q + m.2.1 * (if isW m.1 then 1 else Wd bs (cst t) m.2.2 n'))
    (fun _ _ _ _ _ => by simp) (mvs b s) 0 (fun j q mv δ ξ hj hr' => by
      obtain ⟨hj3, hq, rfl, p13, p14, p15, p16, rfl⟩ := hr'
      have hmm := List.mem_of_getElem? hj
      have hlt := (List.getElem?_eq_some_iff.mp hj).1
      have hbd := mvs_bd okb hmm
      have hval : Bd 80 (3 ^ 20) (if isW mv.1 then 1 else Wd bs (cst t) mv.2.2 n') := by
        split
        · exact (Bd.nat 1).up (by decide) (by decide)
        · exact Wd_bd20 ok hn _
      have hq2 := (hq.add (hbd.mul hval)).up (Nat.le_refl _) (show (0 + j) * 3 ^ 20 + 1 * 3 ^ 20 ≤ (0 + j + 1) * 3 ^ 20 by rw [Nat.add_mul _ 1]; omega)
      have ew : ∀ μ, eqD false (.str (wS mv.1)) (.str "wished") μ = .ok (.bl (isW mv.1)) μ := fun μ => wished_eq
      have h10 : 3 * 3 ^ 20 ≤ 1000000000000 := by decide
      have hj3' : (0 + j) * 3 ^ 20 ≤ 1000000000000 := Nat.le_trans (Nat.mul_le_mul_right _ (show 0 + j ≤ 3 by omega)) h10
      have sq := hq.small (by decide) hj3'
      have sv := hval.small (by decide) (Nat.le_trans (by decide) h10)
      have sp := hbd.small (by decide) (by decide)
      have spv := (hbd.mul hval).small (by decide) (by decide)
      have hz2 : 2 ≤ sizeLine := le_size (by decide)
      have et := law_times_ok (μ := ξ) sp sv
      have ep := law_plus_ok (μ := ξ) sq spv
      have ev1 : eIf (tVal (eB (eqD false) (eVar 13) (eC (.str "wished")))) (eTup (aCons (eC (.int 1)) (aCons (eC (.int 1)) (aNil)))) (eB ixD (eB ixD (eVar 5) (eVar 11)) (eVar 15)) (ws (dcN bs kp) a (byD t) N ev (.ref r) o6 o7 (some (zD s)) o9 (some (.int i)) (some (.int n')) (some (qD q)) (some (.str (wS mv.1))) (some (qD mv.2.1)) (some (zD mv.2.2)) p16) ξ = .ok (qD (if isW mv.1 then 1 else Wd bs (cst t) mv.2.2 n')) ξ := by
        cases hw : isW mv.1 with
        | true =>
          rw [hw] at ew
          have q1' : (D.tup [.int 1, .int 1]) = qD 1 := rfl
          simp [-eqD, -ixD, ws, ew, hz2, q1']
        | false =>
          rw [hw] at ew
          have hmem : mv.2.2 ∈ allS bs true s0 := (all_sub ok h0).mpr (.step hsr (mv_open hbm hmm hw))
          have x1 : ixD (.ref r) (.int n') ξ = .ok (rowD bs t s0 n') ξ := by simp [hr, hrow]
          have x2 := row_ix (bs := bs) (t := t) (n := n') hmem (μ := ξ)
          simp [-eqD, -ixD, ws, ew, x1, x2]
      refine ⟨ws (dcN bs kp) a (byD t) N ev (.ref r) o6 o7 (some (zD s)) o9 (some (.int i)) (some (.int n')) (some (qD q)) (some (.str (wS mv.1))) (some (qD mv.2.1)) (some (zD mv.2.2)) p16, ξ, ws (dcN bs kp) a (byD t) N ev (.ref r) o6 o7 (some (zD s)) o9 (some (.int i)) (some (.int n')) (some (qD (q + mv.2.1 * (if isW mv.1 then 1 else Wd bs (cst t) mv.2.2 n')))) (some (.str (wS mv.1))) (some (qD mv.2.1)) (some (zD mv.2.2)) (some (qD (if isW mv.1 then 1 else Wd bs (cst t) mv.2.2 n'))), ξ, by rw [mvD_w]; simp [ws], .inl ?_, by omega, hq2, rfl, _, _, _, _, rfl⟩
      generalize (if isW mv.1 then 1 else Wd bs (cst t) mv.2.2 n') = V at *
      have es : sAsg (eIf (tVal (eB (eqD false) (eVar 13) (eC (.str "wished")))) (eTup (aCons (eC (.int 1)) (aCons (eC (.int 1)) (aNil)))) (eB ixD (eB ixD (eVar 5) (eVar 11)) (eVar 15))) (gNm 16) (ws (dcN bs kp) a (byD t) N ev (.ref r) o6 o7 (some (zD s)) o9 (some (.int i)) (some (.int n')) (some (qD q)) (some (.str (wS mv.1))) (some (qD mv.2.1)) (some (zD mv.2.2)) p16) ξ = .nx (ws (dcN bs kp) a (byD t) N ev (.ref r) o6 o7 (some (zD s)) o9 (some (.int i)) (some (.int n')) (some (qD q)) (some (.str (wS mv.1))) (some (qD mv.2.1)) (some (zD mv.2.2)) (some (qD V))) ξ := by
        unfold sAsg
        rw [ev1]
        rfl
      rw [seq_nx es]
      simp [ws, et, ep]) 0 (ws (dcN bs kp) a (byD t) N ev (.ref r) o6 o7 (some (zD s)) o9 (some (.int i)) (some (.int n')) (some (qD 0)) o13 o14 o15 o16) ν ⟨by omega, Bd.zero, rfl, o13, o14, o15, o16, rfl⟩
  obtain ⟨h2, rfl, p13, p14, p15, p16, rfl⟩ := h2
  exact ⟨p13, p14, p15, p16, e⟩
/-- a statement of several slots that may be anything -/
theorem lw_loop2 {bs : List Bn} {kp : List Int} {t : Bool} {n r N : Nat} {s s0 : St} {a ev : D} {rows : List D} {o7 o10 o11 o12 o13 o14 o15 o16 : Option D} (ok : OkB bs) (hs : s ∈ allS bs true s0) (h0 : InB s0) (hn : n ≤ 20) {ν : MH} (hr : ν[r]? = some (some (.lst rows))) (hrow : ∀ j, j < n → rows[j]? = some (rowD bs t s0 j)) :
    ∃ p10 p11 p12 p13 p14 p15 p16, L__law_within_2 (ws (dcN bs kp) a (byD t) N ev (.ref r) (some (.int n)) o7 (some (zD s)) (some (qD 0)) o10 o11 o12 o13 o14 o15 o16) ν =
      .nx (ws (dcN bs kp) a (byD t) N ev (.ref r) (some (.int n)) o7 (some (zD s)) (some (qD (Wd bs (cst t) s n))) p10 p11 p12 p13 p14 p15 p16) ν := by
  have e0 : ∀ μ, ixD (dcN bs kp) (.str "boxes") μ = .ok (.tup ((bs.map Bn.bx).map Bx.enc)) μ := fun μ => ix_boxes
  have hlb := told_len (bs := bs)
  generalize (bs.map Bn.bx).map Bx.enc = L at e0 hlb
  have b3 := ok.1
  have hz2 : 2 ≤ sizeLine := le_size (by decide)
  unfold L__law_within_2 sFor
  rw [iRn1_ok (n := bs.length) (μ' := ν) (by simp [-ixD, ws, e0, hlb]) (by omega)]
  simp only [R.to]
  have ew : Wd bs (cst t) s n = bs.foldl (fun q b => if cst t b ≤ n then mx q (Wx bs (cst t) s n b) else q) 0 := by
    rw [Wd_eq (cst_pos ok)]
    unfold gre
    simp only [List.tail_cons, List.head?_cons, Option.getD_some]
    rw [List.foldl_map, List.foldl_filter]
    congr 1
    funext q b
    simp
  rw [ew]
  obtain ⟨δ', ν', e, h2⟩ := for_rl (l := bs) (g := gNm 10) (f := (sSeq (sAsg (eB subD (eVar 6) (eCall F__law_cost (aCons (eVar 0) (aCons (eVar 10) (aCons (eVar 2) (aNil)))))) (gNm 11)) (sSeq (sIf (tVal (eB geD (eVar 11) (eC (.int 0)))) (sSeq (sAsg (eTup (aCons (eC (.int 0)) (aCons (eC (.int 1)) (aNil)))) (gNm 12)) (sSeq (L__law_within_1) (sSeq (sAsg (eCall F__law_most (aCons (eLst (aCons (eVar 9) (aCons (eVar 12) (aNil)))) (aNil))) (gNm 9)) (sNil)))) (sNil)) (sNil))))
    (R := fun q δ ξ => Bd 80 (3 ^ 20) q ∧ ξ = ν ∧ ∃ p10 p11 p12 p13 p14 p15 p16, δ = ws (dcN bs kp) a (byD t) N ev (.ref r) (some (.int n)) o7 (some (zD s)) (some (qD q)) p10 p11 p12 p13 p14 p15 p16) (step := fun q b => if cst t b ≤ n then mx q (Wx bs (cst t) s n b) else q)
    (fun q i b δ ξ hb hr' => by
      obtain ⟨hq, rfl, p10, p11, p12, p13, p14, p15, p16, rfl⟩ := hr'
      have hbm := List.mem_of_getElem? hb
      have ec := law_cost_ok (kp := kp) (t := t) (μ := ξ) hb
      have hc := cst_pos ok (t := t) b hbm
      by_cases hcn : cst t b ≤ n
      · have hrr : (n : Int) - (cst t b : Nat) = ((n - cst t b : Nat) : Int) := by omega
        obtain ⟨r13, r14, r15, r16, el⟩ := lw_loop1 (a := a) (kp := kp) (N := N) (ev := ev) (o6 := some (.int n)) (o7 := o7) (o9 := some (qD q)) (o13 := p13) (o14 := p14) (o15 := p15) (o16 := p16) ok hb hs h0 (n' := n - cst t b) (by omega) hr (hrow _ (by omega))
        have hge : (0 : Int) ≤ (n : Int) - (cst t b : Nat) := by omega
        have hwx : Bd 80 (3 ^ 20) (Wx bs (cst t) s n b) := (Wx_bd' ok (n := n) (s := s) (fun n' _ s => Wd_bd ok (cst_pos ok) (mvs_bd' ok) n' s) (mvs_bd' ok) hbm hc hcn).up (by omega) (Nat.pow_le_pow_right (by decide) hn)
        have sx := hwx.small (by decide) (by decide)
        have sq := hq.small (by decide) (by decide)
        have eg := law_most_ok (a := q) (l := [Wx bs (cst t) s n b]) (μ := ξ) (fun x hx => by
          rcases List.mem_cons.mp hx with rfl | hx
          · exact sq
          · simp at hx; subst hx; exact sx)
        have eg' : F__law_most [.lst [qD q, qD (Wx bs (cst t) s n b)]] ξ = .ok (qD (mx q (Wx bs (cst t) s n b))) ξ := eg
        have q0' : (D.tup [.int 0, .int 1]) = qD 0 := rfl
        refine ⟨ws (dcN bs kp) a (byD t) N ev (.ref r) (some (.int n)) o7 (some (zD s)) (some (qD q)) (some (.int i)) p11 p12 p13 p14 p15 p16, ξ, ws (dcN bs kp) a (byD t) N ev (.ref r) (some (.int n)) o7 (some (zD s)) (some (qD (mx q (Wx bs (cst t) s n b)))) (some (.int i)) (some (.int (n - cst t b : Nat))) (some (qD (Wx bs (cst t) s n b))) r13 r14 r15 r16, ξ, rfl, .inl ?_, ?_⟩
        · unfold Wx at eg' ⊢
          generalize wsum (fun m => if isW m.1 then 1 else Wd bs (cst t) m.2.2 (n - cst t b)) (mvs b s) = V at *
          simp only [ws] at el
          rw [hrr] at hge
          simp [ws, ec, hrr, hge, hz2, q0', el, eg']
        · rw [if_pos hcn]
          exact ⟨mx_bd hq hwx, rfl, _, _, _, _, _, _, _, rfl⟩
      · have hlt : ¬ (0 : Int) ≤ (n : Int) - (cst t b : Nat) := by omega
        refine ⟨ws (dcN bs kp) a (byD t) N ev (.ref r) (some (.int n)) o7 (some (zD s)) (some (qD q)) (some (.int i)) p11 p12 p13 p14 p15 p16, ξ, ws (dcN bs kp) a (byD t) N ev (.ref r) (some (.int n)) o7 (some (zD s)) (some (qD q)) (some (.int i)) (some (.int ((n : Int) - (cst t b : Nat)))) p12 p13 p14 p15 p16, ξ, rfl, .inl ?_, ?_⟩
        · simp [ws, ec, hlt, hcn]
        · rw [if_neg hcn]
          exact ⟨hq, rfl, _, _, _, _, _, _, _, rfl⟩) 0 (ws (dcN bs kp) a (byD t) N ev (.ref r) (some (.int n)) o7 (some (zD s)) (some (qD 0)) o10 o11 o12 o13 o14 o15 o16) ν ⟨Bd.zero, rfl, _, _, _, _, _, _, _, rfl⟩
  obtain ⟨_, rfl, p10, p11, p12, p13, p14, p15, p16, rfl⟩ := h2
  exact ⟨p10, p11, p12, p13, p14, p15, p16, e⟩
theorem take_snoc {α : Type} {l : List α} {i : Nat} {a : α} (h : l[i]? = some a) : l.take (i + 1) = l.take i ++ [a] := by
  rw [List.take_succ, h]; rfl
/-- the row of one n, begun -/
noncomputable def rowM (bs : List Bn) (t : Bool) (s0 : St) (n i : Nat) : MO := .dic true (((allS bs true s0).take i).map zD) (((allS bs true s0).take i).map fun s => qD (Wd bs (cst t) s n))
theorem lw_loop3 {bs : List Bn} {kp : List Int} {t : Bool} {n r p N : Nat} {s0 : St} {a : D} {rows : List D} {o8 o9 o10 o11 o12 o13 o14 o15 o16 : Option D} (ok : OkB bs) (h0 : InB s0) (hn : n ≤ 20) {ν : MH} (hrp : r ≠ p) (hp : ν[p]? = some (some (.dic true [] []))) (hr : ν[r]? = some (some (.lst rows))) (hrow : ∀ j, j < n → rows[j]? = some (rowD bs t s0 j)) :
    ∃ p8 p9 p10 p11 p12 p13 p14 p15 p16, L__law_within_3 (ws (dcN bs kp) a (byD t) N (.lst ((allS bs true s0).map zD)) (.ref r) (some (.int n)) (some (.ref p)) o8 o9 o10 o11 o12 o13 o14 o15 o16) ν =
      .nx (ws (dcN bs kp) a (byD t) N (.lst ((allS bs true s0).map zD)) (.ref r) (some (.int n)) (some (.ref p)) p8 p9 p10 p11 p12 p13 p14 p15 p16) (ν.set p (some (rowM bs t s0 n (allS bs true s0).length))) := by
  have hz2 : 2 ≤ sizeLine := le_size (by decide)
  have h100 := all_le (bs := bs) (op := true) (s0 := s0)
  have hpl := (List.getElem?_eq_some_iff.mp hp).1
  unfold L__law_within_3 sFor
  have hi : iSq (eVar 4) (ws (dcN bs kp) a (byD t) N (.lst ((allS bs true s0).map zD)) (.ref r) (some (.int n)) (some (.ref p)) o8 o9 o10 o11 o12 o13 o14 o15 o16) ν = .ok (fun μ => sameL μ (.lst ((allS bs true s0).map zD)) ((allS bs true s0).map zD), (allS bs true s0).map zD) ν := by
    generalize (allS bs true s0).map zD = A
    simp [ws]
  rw [hi]
  simp only [R.to]
  obtain ⟨δ', ν', e, h2⟩ := for_foldi (enc := zD) (T := Unit) (chk := fun μ => sameL μ (.lst ((allS bs true s0).map zD)) ((allS bs true s0).map zD)) (g := gNm 8) (f := (sSeq (sAsg (eTup (aCons (eC (.int 0)) (aCons (eC (.int 1)) (aNil)))) (gNm 9)) (sSeq (L__law_within_2) (sSeq (sPut (eVar 9) (eVar 7) (eVar 8)) (sNil)))))
    (R := fun i _ δ ξ => ξ = ν.set p (some (rowM bs t s0 n i)) ∧ ∃ p8 p9 p10 p11 p12 p13 p14 p15 p16, δ = ws (dcN bs kp) a (byD t) N (.lst ((allS bs true s0).map zD)) (.ref r) (some (.int n)) (some (.ref p)) p8 p9 p10 p11 p12 p13 p14 p15 p16) (step := fun _ _ => ())
    (fun _ _ _ _ _ => by simp) (allS bs true s0) 0 (fun j _ s δ ξ hj hr' => by
      obtain ⟨rfl, p8, p9, p10, p11, p12, p13, p14, p15, p16, rfl⟩ := hr'
      rw [Nat.zero_add]
      have hmem := List.mem_of_getElem? hj
      have hjl := (List.getElem?_eq_some_iff.mp hj).1
      have hr2 : (ν.set p (some (rowM bs t s0 n j)))[r]? = some (some (.lst rows)) := by
        rw [List.getElem?_set_ne (fun h => hrp h.symm)]
        exact hr
      obtain ⟨q10, q11, q12, q13, q14, q15, q16, el⟩ := lw_loop2 (a := a) (kp := kp) (N := N) (ev := .lst ((allS bs true s0).map zD)) (o7 := some (.ref p)) (o10 := p10) (o11 := p11) (o12 := p12) (o13 := p13) (o14 := p14) (o15 := p15) (o16 := p16) ok hmem h0 hn hr2 hrow
      have q0' : (D.tup [.int 0, .int 1]) = qD 0 := rfl
      have hgp : (ν.set p (some (rowM bs t s0 n j)))[p]? = some (some (rowM bs t s0 n j)) := List.getElem?_set_self hpl
      have hnot : s ∉ (allS bs true s0).take j := fun hin => by
        obtain ⟨i, hi⟩ := List.mem_iff_getElem?.mp hin
        rw [List.getElem?_take] at hi
        split at hi
        · rename_i hij
          have hnd := all_nod (bs := bs) (op := true) (s0 := s0)
          have := (List.getElem?_inj (Nat.lt_trans hij hjl) hnd).mp (hi.trans hj.symm)
          omega
        · cases hi
      have es : setD (.ref p) (zD s) (qD (Wd bs (cst t) s n)) (ν.set p (some (rowM bs t s0 n j))) = some (ν.set p (some (rowM bs t s0 n (j + 1)))) := by
        have e := dput_fn stE (fun s => qD (Wd bs (cst t) s n)) hnot
        have ko := stE.ko s
        change keyOf true (zD s) = some (sK s) at ko
        change dput (sK s) (zD s) (qD (Wd bs (cst t) s n)) (((allS bs true s0).take j).map zD) _ = (((allS bs true s0).take j ++ [s]).map zD, _) at e
        have hlen : (((allS bs true s0).take j).map zD).length < sizeLine := lt_size (by rw [List.length_map, List.length_take]; omega)
        rw [← take_snoc hj] at e
        simp only [setD, hgp]
        simp only [rowM, ko, e, hlen, if_true]
        simp [List.set_set]
      refine ⟨ws (dcN bs kp) a (byD t) N (.lst ((allS bs true s0).map zD)) (.ref r) (some (.int n)) (some (.ref p)) (some (zD s)) p9 p10 p11 p12 p13 p14 p15 p16, ν.set p (some (rowM bs t s0 n j)), ws (dcN bs kp) a (byD t) N (.lst ((allS bs true s0).map zD)) (.ref r) (some (.int n)) (some (.ref p)) (some (zD s)) (some (qD (Wd bs (cst t) s n))) q10 q11 q12 q13 q14 q15 q16, ν.set p (some (rowM bs t s0 n (j + 1))), rfl, .inl ?_, rfl, _, _, _, _, _, _, _, _, _, rfl⟩
      generalize (allS bs true s0).map zD = A at *
      generalize ν.set p (some (rowM bs t s0 n j)) = ξ at *
      generalize ν.set p (some (rowM bs t s0 n (j + 1))) = ξ2 at *
      simp only [ws] at el
      simp [-setD, ws, hz2, q0', el, es]) () (ws (dcN bs kp) a (byD t) N (.lst ((allS bs true s0).map zD)) (.ref r) (some (.int n)) (some (.ref p)) o8 o9 o10 o11 o12 o13 o14 o15 o16) ν ⟨by
        have hz : rowM bs t s0 n 0 = .dic true [] [] := rfl
        rw [hz]
        apply List.ext_getElem?
        intro i
        by_cases q : p = i
        · subst q; rw [hp, List.getElem?_set_self hpl]
        · rw [List.getElem?_set_ne q], _, _, _, _, _, _, _, _, _, rfl⟩
  obtain ⟨rfl, p8, p9, p10, p11, p12, p13, p14, p15, p16, rfl⟩ := h2
  refine ⟨p8, p9, p10, p11, p12, p13, p14, p15, p16, ?_⟩
  rw [Nat.zero_add] at e
  exact e
theorem law_within_ok {bs : List Bn} {kp : List Int} {t : Bool} {N : Nat} {s0 : St} {μ : MH} (ok : OkB bs) (h0 : InB s0) (hN : N ≤ 20) : F__law_within [dcN bs kp, zD s0, byD t, .int N] μ = .ok (.lst (rowsD bs t s0 (N + 1))) μ := by
  have ea := law_all_ok kp ok h0 true μ
  have loop : ∃ δ' more, L__law_within_4 (ws (dcN bs kp) (zD s0) (byD t) N (.lst ((allS bs true s0).map zD)) (.ref μ.length) none none none none none none none none none none none) (μ ++ [some (.lst [])]) = .nx δ' (μ ++ some (.lst (rowsD bs t s0 (N + 1))) :: more) ∧ δ'[5]? = some (some (.ref μ.length)) := by
    unfold L__law_within_4 sFor
    rw [iRn1_ok (n := N + 1) (μ' := μ ++ [some (.lst [])]) (by simp [ws]) (by omega)]
    simp only [R.to]
    obtain ⟨δ', μ', e, more, rfl, o6, o7, o8, o9, o10, o11, o12, o13, o14, o15, o16, rfl⟩ := for_rng (n := N + 1) (g := gNm 6) (f := (sSeq (sAsg (eDicM true) (gNm 7)) (sSeq (L__law_within_3) (sSeq (sExpr (eMt appD (eVar 5) (aCons (eFz (eVar 7)) (aNil)))) (sNil)))))
      (P := fun j δ ξ => ∃ more, ξ = μ ++ some (.lst (rowsD bs t s0 j)) :: more ∧ ∃ o6 o7 o8 o9 o10 o11 o12 o13 o14 o15 o16, δ = ws (dcN bs kp) (zD s0) (byD t) N (.lst ((allS bs true s0).map zD)) (.ref μ.length) o6 o7 o8 o9 o10 o11 o12 o13 o14 o15 o16)
      (fun j δ ξ hj hp => by
        obtain ⟨more, rfl, o6, o7, o8, o9, o10, o11, o12, o13, o14, o15, o16, rfl⟩ := hp
        have hgr : (μ ++ some (MO.lst (rowsD bs t s0 j)) :: more ++ [some (.dic true [] [])])[μ.length]? = some (some (.lst (rowsD bs t s0 j))) := by simp
        have hgp : (μ ++ some (MO.lst (rowsD bs t s0 j)) :: more ++ [some (.dic true [] [])])[(μ ++ some (MO.lst (rowsD bs t s0 j)) :: more).length]? = some (some (.dic true [] [])) := by simp
        obtain ⟨q8, q9, q10, q11, q12, q13, q14, q15, q16, el⟩ := lw_loop3 (a := zD s0) (kp := kp) (N := N) (o8 := o8) (o9 := o9) (o10 := o10) (o11 := o11) (o12 := o12) (o13 := o13) (o14 := o14) (o15 := o15) (o16 := o16) ok h0 (n := j) (by omega) (by simp) hgp hgr fun i hi => rows_ix hi
        have hrl : (rowsD bs t s0 j).length < sizeLine := lt_size (by simp [rowsD]; omega)
        have hfull : rowM bs t s0 j (allS bs true s0).length = .dic true ((allS bs true s0).map zD) ((allS bs true s0).map fun s => qD (Wd bs (cst t) s j)) := by
          unfold rowM
          rw [List.take_of_length_le (Nat.le_refl _)]
        have hset : (μ ++ some (MO.lst (rowsD bs t s0 j)) :: more ++ [some (MO.dic true [] [])]).set (μ ++ some (MO.lst (rowsD bs t s0 j)) :: more).length (some (rowM bs t s0 j (allS bs true s0).length)) = μ ++ some (MO.lst (rowsD bs t s0 j)) :: more ++ [some (rowM bs t s0 j (allS bs true s0).length)] := by simp
        rw [hset] at el
        have hrow : rowD bs t s0 j = D.dic true ((allS bs true s0).map zD) ((allS bs true s0).map fun s => qD (Wd bs (cst t) s j)) := rfl
        have hnext : rowsD bs t s0 (j + 1) = rowsD bs t s0 j ++ [rowD bs t s0 j] := by simp [rowsD, List.range_succ]
        refine ⟨ws (dcN bs kp) (zD s0) (byD t) N (.lst ((allS bs true s0).map zD)) (.ref μ.length) (some (.int j)) o7 o8 o9 o10 o11 o12 o13 o14 o15 o16, μ ++ some (.lst (rowsD bs t s0 j)) :: more, ws (dcN bs kp) (zD s0) (byD t) N (.lst ((allS bs true s0).map zD)) (.ref μ.length) (some (.int j)) (some (.ref (μ ++ some (MO.lst (rowsD bs t s0 j)) :: more).length)) q8 q9 q10 q11 q12 q13 q14 q15 q16, μ ++ some (.lst (rowsD bs t s0 (j + 1))) :: (more ++ [none]), rfl, ?_, more ++ [none], rfl, _, _, _, _, _, _, _, _, _, _, _, rfl⟩
        rw [hnext, hrow]
        rw [hfull] at el
        generalize (allS bs true s0).map zD = A at *
        generalize ((allS bs true s0).map fun s => qD (Wd bs (cst t) s j)) = B at *
        clear hfull hrow hset hgp hgr
        generalize hR : rowsD bs t s0 j = Rw0 at *
        generalize hξ : μ ++ some (MO.lst Rw0) :: more = ξ at *
        have hlt : μ.length < ξ.length := by rw [← hξ]; simp
        have e1 : (ξ ++ [some (MO.dic true A B)])[μ.length]? = some (some (.lst Rw0)) := by rw [List.getElem?_append_left hlt, ← hξ]; simp
        have e2 : (ξ ++ [some (MO.dic true A B)])[ξ.length]? = some (some (.dic true A B)) := by simp
        have e3 : (ξ ++ [some (MO.dic true A B)]).set ξ.length none = ξ ++ [none] := by simp
        have e4 : (ξ ++ [none])[μ.length]? = some (some (.lst Rw0)) := by rw [List.getElem?_append_left hlt, ← hξ]; simp
        have e5 : (ξ ++ [none]).set μ.length (some (MO.lst (Rw0 ++ [D.dic true A B]))) = μ ++ some (MO.lst (Rw0 ++ [D.dic true A B])) :: (more ++ [none]) := by
          rw [← hξ]
          simp [List.set_append]
        simp only [ws] at el
        simp [ws, el, e1, e2, e3, e4, hrl, e5]) (δ := ws (dcN bs kp) (zD s0) (byD t) N (.lst ((allS bs true s0).map zD)) (.ref μ.length) none none none none none none none none none none none) (μ := μ ++ [some (.lst [])]) ⟨[], by simp [rowsD], _, _, _, _, _, _, _, _, _, _, _, rfl⟩
    exact ⟨_, more, e, rfl⟩
  obtain ⟨δ', more, e, hd⟩ := loop
  have hb : bels μ.length (rowsD bs t s0 (N + 1)) = true := bels_map (fun _ => rowD_bel) _
  have hget : (μ ++ some (MO.lst (rowsD bs t s0 (N + 1))) :: more)[μ.length]? = some (some (.lst (rowsD bs t s0 (N + 1)))) := by simp
  have hset : (μ ++ some (MO.lst (rowsD bs t s0 (N + 1))) :: more).set μ.length none = μ ++ none :: more := by simp
  simp only [ws] at e
  generalize (allS bs true s0).map zD = A at *
  generalize rowsD bs t s0 (N + 1) = B at *
  simp [F__law_within, fnB, ea, e, hd, hget, hset, D.bel, hb]
end SZ
end
section
namespace K06
open PySem PySem.Spec PyProof.Rows L2 SZ
def top (i : Nat) : Stmt := PySem.Challenge.pw_sureprize_k06_whole_chances.main.body.getD i (.Pass ⟨0, 0, 0, 0⟩)
structure Ad where
  U_FIRST_0 : Addr
  U_FIRST_1 : Addr
  U_FIRST : Addr
  U_FRESH : Addr
  U_ONE : Addr
  U_ZERO : Addr
  _law_draws : Addr
  _law_pick : Addr
  _law_box : Addr
  _law_drawn : Addr
  _law_fraction : Addr
  _law_moves : Addr
  _law_all : Addr
  _law_first : Addr
  _law_stand : Addr
  is_from : Addr
  are_chances : Addr
  is_box : Addr
  are_kept : Addr
  _law_made : Addr
  _law_cost : Addr
  _law_plus : Addr
  _law_times : Addr
  _law_less : Addr
  _law_most : Addr
  _law_within : Addr
  is_pair : Addr
  with_kind : Addr
  divisor : Addr
  fraction : Addr
  moves_of : Addr
  standings_of : Addr
  is_standing : Addr
  check_standing : Addr
  check_by : Addr
  check_number : Addr
  indexes : Addr
  cost_of : Addr
  plus : Addr
  times : Addr
  is_less : Addr
  greatest : Addr
  chance : Addr
  _law_refused : Addr
  law : Addr
  Book : Addr
  Book_init : Addr
  T_Book_init : Addr
  E_Book_init : Addr
  Within : Addr
  Within_init : Addr
  Within_of_box : Addr
  Within_of : Addr
  PrizeError : Addr
  BadKept : Addr
  BadStanding : Addr
  BadNumber : Addr
  BadWord : Addr
  BadBox : Addr
  BadBox_init : Addr
def clT (a : Ad) : Nat → Option (Addr × List Str)
  | 0 => some (a.Book, [("told" : Str), ("left" : Str)])
  | 2 => some (a.Within, [("book" : Str), ("by" : Str), ("known" : Str)])
  | 6 => some (a.PrizeError, [])
  | 7 => some (a.BadKept, [])
  | 8 => some (a.BadStanding, [])
  | 9 => some (a.BadNumber, [])
  | 10 => some (a.BadWord, [])
  | 13 => some (a.BadBox, [("index" : Str)])
  | _ => none
def fnT (a : Ad) : Nat → Option Addr
  | 3 => some a.greatest
  | _ => none
structure Txt (G : Glo) (a : Ad) : Prop where
  cl : G.cl = clT a
  fnv : G.fn = fnT a
  c_DRAWS : GC G "DRAWS" C_DRAWS
  c_FIRST : GC G "FIRST" C_FIRST
  c_FRESH : GC G "FRESH" C_FRESH
  c_MISS : GC G "MISS" C_MISS
  c_MOST_BOXES : GC G "MOST_BOXES" C_MOST_BOXES
  c_MOST_CHANCES : GC G "MOST_CHANCES" C_MOST_CHANCES
  c_MOST_WITHIN : GC G "MOST_WITHIN" C_MOST_WITHIN
  c_ONE : GC G "ONE" C_ONE
  c_OTHER : GC G "OTHER" C_OTHER
  c_SURE : GC G "SURE" C_SURE
  c_TICKETS : GC G "TICKETS" C_TICKETS
  c_WISHED : GC G "WISHED" C_WISHED
  c_ZERO : GC G "ZERO" C_ZERO
  n_all : G.mg "all" = none
  n_bool : G.mg "bool" = none
  n_enumerate : G.mg "enumerate" = none
  n_int : G.mg "int" = none
  n_isinstance : G.mg "isinstance" = none
  n_len : G.mg "len" = none
  n_list : G.mg "list" = none
  n_min : G.mg "min" = none
  n_range : G.mg "range" = none
  n_set : G.mg "set" = none
  n_sorted : G.mg "sorted" = none
  n_str : G.mg "str" = none
  n_tuple : G.mg "tuple" = none
  g__law_draws : G.mg "_law_draws" = some (.ref a._law_draws)
  t__law_draws : FT G "_law_draws" "_law_draws" (top 47) a._law_draws
  g__law_pick : G.mg "_law_pick" = some (.ref a._law_pick)
  t__law_pick : FT G "_law_pick" "_law_pick" (top 48) a._law_pick
  g__law_box : G.mg "_law_box" = some (.ref a._law_box)
  t__law_box : FT G "_law_box" "_law_box" (top 55) a._law_box
  g__law_drawn : G.mg "_law_drawn" = some (.ref a._law_drawn)
  t__law_drawn : FT G "_law_drawn" "_law_drawn" (top 56) a._law_drawn
  g__law_fraction : G.mg "_law_fraction" = some (.ref a._law_fraction)
  t__law_fraction : FT G "_law_fraction" "_law_fraction" (top 50) a._law_fraction
  g__law_moves : G.mg "_law_moves" = some (.ref a._law_moves)
  t__law_moves : FT G "_law_moves" "_law_moves" (top 58) a._law_moves
  g__law_all : G.mg "_law_all" = some (.ref a._law_all)
  t__law_all : FT G "_law_all" "_law_all" (top 59) a._law_all
  g__law_first : G.mg "_law_first" = some (.ref a._law_first)
  t__law_first : FT G "_law_first" "_law_first" (top 49) a._law_first
  g__law_stand : G.mg "_law_stand" = some (.ref a._law_stand)
  t__law_stand : FT G "_law_stand" "_law_stand" (top 60) a._law_stand
  g_is_from : G.mg "is_from" = some (.ref a.is_from)
  t_is_from : FT G "is_from" "is_from" (top 25) a.is_from
  g_are_chances : G.mg "are_chances" = some (.ref a.are_chances)
  t_are_chances : FT G "are_chances" "are_chances" (top 26) a.are_chances
  g_is_box : G.mg "is_box" = some (.ref a.is_box)
  t_is_box : FT G "is_box" "is_box" (top 27) a.is_box
  g_are_kept : G.mg "are_kept" = some (.ref a.are_kept)
  t_are_kept : FT G "are_kept" "are_kept" (top 28) a.are_kept
  g__law_made : G.mg "_law_made" = some (.ref a._law_made)
  t__law_made : FT G "_law_made" "_law_made" (top 57) a._law_made
  g__law_cost : G.mg "_law_cost" = some (.ref a._law_cost)
  t__law_cost : FT G "_law_cost" "_law_cost" (top 61) a._law_cost
  g__law_plus : G.mg "_law_plus" = some (.ref a._law_plus)
  t__law_plus : FT G "_law_plus" "_law_plus" (top 51) a._law_plus
  g__law_times : G.mg "_law_times" = some (.ref a._law_times)
  t__law_times : FT G "_law_times" "_law_times" (top 52) a._law_times
  g__law_less : G.mg "_law_less" = some (.ref a._law_less)
  t__law_less : FT G "_law_less" "_law_less" (top 53) a._law_less
  g__law_most : G.mg "_law_most" = some (.ref a._law_most)
  t__law_most : FT G "_law_most" "_law_most" (top 54) a._law_most
  g__law_within : G.mg "_law_within" = some (.ref a._law_within)
  t__law_within : FT G "_law_within" "_law_within" (top 62) a._law_within
  g_is_pair : G.mg "is_pair" = some (.ref a.is_pair)
  t_is_pair : FT G "is_pair" "is_pair" (top 35) a.is_pair
  g_with_kind : G.mg "with_kind" = some (.ref a.with_kind)
  t_with_kind : FT G "with_kind" "with_kind" (top 32) a.with_kind
  g_divisor : G.mg "divisor" = some (.ref a.divisor)
  t_divisor : FT G "divisor" "divisor" (top 10) a.divisor
  g_fraction : G.mg "fraction" = some (.ref a.fraction)
  t_fraction : FT G "fraction" "fraction" (top 11) a.fraction
  g_moves_of : G.mg "moves_of" = some (.ref a.moves_of)
  t_moves_of : FT G "moves_of" "moves_of" (top 33) a.moves_of
  g_standings_of : G.mg "standings_of" = some (.ref a.standings_of)
  t_standings_of : FT G "standings_of" "standings_of" (top 34) a.standings_of
  g_is_standing : G.mg "is_standing" = some (.ref a.is_standing)
  t_is_standing : FT G "is_standing" "is_standing" (top 36) a.is_standing
  g_check_standing : G.mg "check_standing" = some (.ref a.check_standing)
  t_check_standing : FT G "check_standing" "check_standing" (top 37) a.check_standing
  g_check_by : G.mg "check_by" = some (.ref a.check_by)
  t_check_by : FT G "check_by" "check_by" (top 39) a.check_by
  g_check_number : G.mg "check_number" = some (.ref a.check_number)
  t_check_number : FT G "check_number" "check_number" (top 38) a.check_number
  g_indexes : G.mg "indexes" = some (.ref a.indexes)
  t_indexes : FT G "indexes" "indexes" (top 42) a.indexes
  g_cost_of : G.mg "cost_of" = some (.ref a.cost_of)
  t_cost_of : FT G "cost_of" "cost_of" (top 43) a.cost_of
  g_plus : G.mg "plus" = some (.ref a.plus)
  t_plus : FT G "plus" "plus" (top 12) a.plus
  g_times : G.mg "times" = some (.ref a.times)
  t_times : FT G "times" "times" (top 13) a.times
  g_is_less : G.mg "is_less" = some (.ref a.is_less)
  t_is_less : FT G "is_less" "is_less" (top 14) a.is_less
  g_greatest : G.mg "greatest" = some (.ref a.greatest)
  t_greatest : FT G "greatest" "greatest" (top 15) a.greatest
  g_chance : G.mg "chance" = some (.ref a.chance)
  t_chance : FT G "chance" "chance" (top 45) a.chance
  g__law_refused : G.mg "_law_refused" = some (.ref a._law_refused)
  t__law_refused : FT G "_law_refused" "_law_refused" (top 63) a._law_refused
  g_law : G.mg "law" = some (.ref a.law)
  t_law : FT G "law" "law" (top 64) a.law
  g_Book : G.mg "Book" = some (.ref a.Book)
  cls_Book : Cls G.K a.Book
  na_Book_told : NoAttr G.K a.Book "told"
  na_Book_left : NoAttr G.K a.Book "left"
  mk_Book : Mk G.K a.Book a.Book_init
  t_Book_init : ∃ fd, FunD G.K "__init__" "Book.__init__" (defArgs (inClass (top 29) 0)) (defBody (inClass (top 29) 0)) (defScope (inClass (top 29) 0)) [.ref a.E_Book_init] [] a.Book_init fd
  e_Book_init : ∀ H ι, DVs G H ι [.tup []] [.ref a.E_Book_init]
  g_Within : G.mg "Within" = some (.ref a.Within)
  cls_Within : Cls G.K a.Within
  na_Within_book : NoAttr G.K a.Within "book"
  na_Within_by : NoAttr G.K a.Within "by"
  na_Within_known : NoAttr G.K a.Within "known"
  mk_Within : Mk G.K a.Within a.Within_init
  t_Within_init : FT G "__init__" "Within.__init__" (inClass (top 44) 0) a.Within_init
  t_Within_of_box : FT G "of_box" "Within.of_box" (inClass (top 44) 1) a.Within_of_box
  me_Within_of_box : Meth G.K a.Within "of_box" a.Within_of_box
  t_Within_of : FT G "of" "Within.of" (inClass (top 44) 2) a.Within_of
  me_Within_of : Meth G.K a.Within "of" a.Within_of
  oc_sp : PySem.W.specialIn G.K (.builtin "object.__class__") "__get__" = some (some (.builtin "getset_descriptor.__get__"))
  oc_tk : PySem.W.takesIn G.K (.builtin "object.__class__") = some true
  g_PrizeError : G.mg "PrizeError" = some (.ref a.PrizeError)
  g_BadKept : G.mg "BadKept" = some (.ref a.BadKept)
  x_BadKept : PySem.W.excIn G.K a.BadKept [.type "ValueError", .type "Exception", .type "BaseException", .type "object"] "ValueError.__new__" = true ∧ PySem.W.keepIn G.K (.ref a.BadKept) = true ∧ PySem.W.subIn G.K (.ref a.BadKept) (.type "BaseException") = some true ∧ PySem.W.typeIn G.K (.ref a.BadKept) = some (.type "type")
  g_BadStanding : G.mg "BadStanding" = some (.ref a.BadStanding)
  x_BadStanding : PySem.W.excIn G.K a.BadStanding [.type "ValueError", .type "Exception", .type "BaseException", .type "object"] "ValueError.__new__" = true ∧ PySem.W.keepIn G.K (.ref a.BadStanding) = true ∧ PySem.W.subIn G.K (.ref a.BadStanding) (.type "BaseException") = some true ∧ PySem.W.typeIn G.K (.ref a.BadStanding) = some (.type "type")
  g_BadNumber : G.mg "BadNumber" = some (.ref a.BadNumber)
  x_BadNumber : PySem.W.excIn G.K a.BadNumber [.type "ValueError", .type "Exception", .type "BaseException", .type "object"] "ValueError.__new__" = true ∧ PySem.W.keepIn G.K (.ref a.BadNumber) = true ∧ PySem.W.subIn G.K (.ref a.BadNumber) (.type "BaseException") = some true ∧ PySem.W.typeIn G.K (.ref a.BadNumber) = some (.type "type")
  g_BadWord : G.mg "BadWord" = some (.ref a.BadWord)
  x_BadWord : PySem.W.excIn G.K a.BadWord [.type "ValueError", .type "Exception", .type "BaseException", .type "object"] "ValueError.__new__" = true ∧ PySem.W.keepIn G.K (.ref a.BadWord) = true ∧ PySem.W.subIn G.K (.ref a.BadWord) (.type "BaseException") = some true ∧ PySem.W.typeIn G.K (.ref a.BadWord) = some (.type "type")
  g_BadBox : G.mg "BadBox" = some (.ref a.BadBox)
  x_BadBox : OexC G.K a.BadBox
  xi_BadBox : PySem.W.findIn G.K (.ref a.BadBox) "__init__" = some (some (.ref a.BadBox_init))
  xf_BadBox : PySem.W.typeIn G.K (.ref a.BadBox_init) = some (.type "function")
  t_BadBox_init : FT G "__init__" "BadBox.__init__" (inClass (top 6) 0) a.BadBox_init
  no_BadBox_index : PySem.W.findIn G.K (.ref a.BadBox) "index" = some none
  ec_BadNumber : ExcC G.K a.BadNumber
  xx_BadNumber : XfC G.K a.BadNumber
  kp_BadNumber : PySem.W.kitOne G.K (.ref a.BadNumber) (.ref a.PrizeError) = some true
  ec_BadStanding : ExcC G.K a.BadStanding
  xx_BadStanding : XfC G.K a.BadStanding
  kp_BadStanding : PySem.W.kitOne G.K (.ref a.BadStanding) (.ref a.PrizeError) = some true
  ec_BadWord : ExcC G.K a.BadWord
  xx_BadWord : XfC G.K a.BadWord
  kp_BadWord : PySem.W.kitOne G.K (.ref a.BadWord) (.ref a.PrizeError) = some true
  ex_BadStanding_BadNumber : PySem.W.exmOne G.K (.ref a.BadStanding) (.ref a.BadNumber) = some false
  ex_BadNumber_BadNumber : PySem.W.exmOne G.K (.ref a.BadNumber) (.ref a.BadNumber) = some true
  ex_BadWord_BadNumber : PySem.W.exmOne G.K (.ref a.BadWord) (.ref a.BadNumber) = some false
  ex_BadStanding_BadStanding : PySem.W.exmOne G.K (.ref a.BadStanding) (.ref a.BadStanding) = some true
  ex_BadNumber_BadStanding : PySem.W.exmOne G.K (.ref a.BadNumber) (.ref a.BadStanding) = some false
  ex_BadWord_BadStanding : PySem.W.exmOne G.K (.ref a.BadWord) (.ref a.BadStanding) = some false
  ex_BadStanding_BadWord : PySem.W.exmOne G.K (.ref a.BadStanding) (.ref a.BadWord) = some false
  ex_BadNumber_BadWord : PySem.W.exmOne G.K (.ref a.BadNumber) (.ref a.BadWord) = some false
  ex_BadWord_BadWord : PySem.W.exmOne G.K (.ref a.BadWord) (.ref a.BadWord) = some true
section
variable {G : Glo} {base : Heap} {a : Ad}
theorem ct_ok (T : Txt G a) : CTok G ct := ⟨fun c C ns h hne => by
  rw [T.cl] at h
  match c, h, hne with
  | 0, h, _ =>
    cases h
    refine ⟨rfl, T.cls_Book, fun f hf => ?_⟩
    simp only [ct, List.mem_cons, List.not_mem_nil, or_false] at hf
    rcases hf with rfl | rfl
    · exact T.na_Book_told
    · exact T.na_Book_left
  | 1, h, _ => cases h
  | 2, h, _ =>
    cases h
    refine ⟨rfl, T.cls_Within, fun f hf => ?_⟩
    simp only [ct, List.mem_cons, List.not_mem_nil, or_false] at hf
    rcases hf with rfl | rfl | rfl
    · exact T.na_Within_book
    · exact T.na_Within_by
    · exact T.na_Within_known
  | 3, h, _ => cases h
  | 4, h, _ => cases h
  | 5, h, _ => cases h
  | n + 6, _, hne => exact absurd rfl hne⟩
theorem X_BadKept (T : Txt G a) : X0Ok G "BadKept" 7 := ⟨_, T.g_BadKept, by rw [T.cl]; rfl, T.x_BadKept⟩
theorem X_BadStanding (T : Txt G a) : X0Ok G "BadStanding" 8 := ⟨_, T.g_BadStanding, by rw [T.cl]; rfl, T.x_BadStanding⟩
theorem X_BadNumber (T : Txt G a) : X0Ok G "BadNumber" 9 := ⟨_, T.g_BadNumber, by rw [T.cl]; rfl, T.x_BadNumber⟩
theorem X_BadWord (T : Txt G a) : X0Ok G "BadWord" 10 := ⟨_, T.g_BadWord, by rw [T.cl]; rfl, T.x_BadWord⟩
theorem X_BadBox (T : Txt G a) : X1Ok G base 1 "BadBox" 13 [("index" : Str)] := by
  obtain ⟨fd, hf⟩ := T.t_BadBox_init.fn
  have S : FnScope [("self" : Str), ("index" : Str)] [("self" : Str), ("index" : Str)] (defScope (inClass (top 6) 0)) := ⟨rfl, rfl, rfl, by decide +kernel, rfl, by decide +kernel, by decide +kernel⟩
  exact ⟨_, _, fd, _, T.g_BadBox, by rw [T.cl]; rfl, T.x_BadBox, T.xi_BadBox, T.xf_BadBox, hf.binds (ps := [("self" : Str), ("index" : Str)]) (fun _ _ _ _ _ _ us hl => match us, hl with | [_, _], _ => rfl), x1_mk1 hf S rfl T.x_BadBox T.no_BadBox_index (by first | exact Or.inl rfl | exact Or.inr (Or.inl rfl) | exact Or.inr (Or.inr rfl)) (by first | exact Or.inl rfl | exact Or.inr (Or.inl rfl) | exact Or.inr (Or.inr rfl)) (by decide) (by decide) (fun _ => rfl)⟩
theorem xc_BadNumber (T : Txt G a) : XcOk G a.PrizeError 9 := ⟨fun C ns h => by
  rw [T.cl] at h
  cases h
  exact ⟨T.ec_BadNumber, T.kp_BadNumber, fun _ => T.xx_BadNumber, fun f hf => by cases hf⟩⟩
theorem xc_BadStanding (T : Txt G a) : XcOk G a.PrizeError 8 := ⟨fun C ns h => by
  rw [T.cl] at h
  cases h
  exact ⟨T.ec_BadStanding, T.kp_BadStanding, fun _ => T.xx_BadStanding, fun f hf => by cases hf⟩⟩
theorem xc_BadWord (T : Txt G a) : XcOk G a.PrizeError 10 := ⟨fun C ns h => by
  rw [T.cl] at h
  cases h
  exact ⟨T.ec_BadWord, T.kp_BadWord, fun _ => T.xx_BadWord, fun f hf => by cases hf⟩⟩
theorem tk_BadNumber_8_9_10 (T : Txt G a) : TkOk G [8, 9, 10] "BadNumber" [9] := ⟨a.BadNumber, T.g_BadNumber, fun c hc D ns h => by
  rw [T.cl] at h
  simp only [List.mem_cons, List.not_mem_nil, or_false] at hc
  rcases hc with rfl | rfl | rfl
  · cases h; exact T.ex_BadStanding_BadNumber
  · cases h; exact T.ex_BadNumber_BadNumber
  · cases h; exact T.ex_BadWord_BadNumber⟩
theorem tk_BadStanding_8_9_10 (T : Txt G a) : TkOk G [8, 9, 10] "BadStanding" [8] := ⟨a.BadStanding, T.g_BadStanding, fun c hc D ns h => by
  rw [T.cl] at h
  simp only [List.mem_cons, List.not_mem_nil, or_false] at hc
  rcases hc with rfl | rfl | rfl
  · cases h; exact T.ex_BadStanding_BadStanding
  · cases h; exact T.ex_BadNumber_BadStanding
  · cases h; exact T.ex_BadWord_BadStanding⟩
theorem tk_BadWord_8_9_10 (T : Txt G a) : TkOk G [8, 9, 10] "BadWord" [10] := ⟨a.BadWord, T.g_BadWord, fun c hc D ns h => by
  rw [T.cl] at h
  simp only [List.mem_cons, List.not_mem_nil, or_false] at hc
  rcases hc with rfl | rfl | rfl
  · cases h; exact T.ex_BadStanding_BadWord
  · cases h; exact T.ex_BadNumber_BadWord
  · cases h; exact T.ex_BadWord_BadWord⟩
theorem D__law_draws (T : Txt G a) (hx : G.xa = none) : FnD G base 1 a._law_draws 1 F__law_draws := by
  obtain ⟨fd, hf⟩ := T.t__law_draws.fn
  have S : FnScope [("_law_script" : Str)] ([("_law_script" : Str)] : List Str) (defScope (top 47)) := ⟨rfl, rfl, rfl, by decide +kernel, rfl, by decide +kernel, by decide +kernel⟩
  exact fn_d hx hf S (fun _ _ _ _ _ _ us hl => match us, hl with | [_], _ => rfl) fun cdv A outer s H E =>
    dss_cons (ds_ret (de_lstM (da_cons (de_ct ca_list T.n_list PyProof.Rows.boot_list (da_cons (de_var 0) (da_nil))) (da_cons (de_int) (da_cons (de_int) (da_cons (de_int) (da_nil))))))) (dss_nil)
theorem D__law_pick (T : Txt G a) (hx : G.xa = none) : FnD G base 1 a._law_pick 2 F__law_pick := by
  obtain ⟨fd, hf⟩ := T.t__law_pick.fn
  have S : FnScope [("_law_row" : Str), ("_law_many" : Str), ("_law_cell" : Str), ("_law_found" : Str)] ([("_law_row" : Str), ("_law_many" : Str)] : List Str) (defScope (top 48)) := ⟨rfl, rfl, rfl, by decide +kernel, rfl, by decide +kernel, by decide +kernel⟩
  exact fn_d hx hf S (fun _ _ _ _ _ _ us hl => match us, hl with | [_, _], _ => rfl) fun cdv A outer s H E =>
    dss_cons (ds_if (dt_cmp od_eq (de_ix (de_var 0) (de_int)) (de_int)) (dss_cons (ds_if (dt_cmp od_lt (de_ix (de_var 0) (de_int)) (de_cb ca_len T.n_len PySem.boot_len (da_cons (de_ix (de_var 0) (de_int)) (da_nil)))) (dss_cons (ds_set 2 (de_ix (de_ix (de_var 0) (de_int)) (de_ix (de_var 0) (de_int)))) (dss_cons (ds_put (de_op od_add (de_ix (de_var 0) (de_int)) (de_int)) (de_var 0) (de_int)) (dss_cons (ds_if (dt_cmp od_ge (de_var 2) (de_op od_pow (de_int) (de_int))) (dss_cons (ds_put (de_var 2) (de_var 0) (de_int)) (dss_nil)) (dss_cons (ds_put (de_op od_mod (de_ct ca_int T.n_int PyProof.Rows.boot_int (da_cons (de_op od_add (de_op od_add (de_op od_mul (de_ix (de_var 0) (de_int)) (de_int)) (de_op od_mul (de_var 2) (de_int))) (de_int)) (da_nil))) (de_int)) (de_var 0) (de_int)) (dss_nil))) (dss_nil)))) (dss_cons (ds_put (de_op od_mod (de_ct ca_int T.n_int PyProof.Rows.boot_int (da_cons (de_op od_add (de_op od_mul (de_ix (de_var 0) (de_int)) (de_int)) (de_int)) (da_nil))) (de_int)) (de_var 0) (de_int)) (dss_nil))) (dss_nil)) (dss_nil)) (dss_cons (ds_if (dt_cmp od_gt (de_ix (de_var 0) (de_int)) (de_int)) (dss_cons (ds_set 3 (de_op od_mod (de_ct ca_int T.n_int PyProof.Rows.boot_int (da_cons (de_ix (de_var 0) (de_int)) (da_nil))) (de_var 1))) (dss_cons (ds_put (de_op od_fdiv (de_ix (de_var 0) (de_int)) (de_var 1)) (de_var 0) (de_int)) (dss_cons (ds_ret (de_var 3)) (dss_nil)))) (dss_nil)) (dss_cons (ds_ret (de_op od_mod (de_op od_mod (de_ct ca_int T.n_int PyProof.Rows.boot_int (da_cons (de_op od_mul (de_ix (de_var 0) (de_int)) (de_int)) (da_nil))) (de_int)) (de_var 1))) (dss_nil)))
theorem D__law_box (T : Txt G a) (hx : G.xa = none) : FnD G base 2 a._law_box 2 F__law_box := by
  obtain ⟨fd, hf⟩ := T.t__law_box.fn
  have S : FnScope [("_law_row" : Str), ("_law_many" : Str), ("_law_chances" : Str), ("_law_k" : Str), ("_law_half" : Str)] ([("_law_row" : Str), ("_law_many" : Str)] : List Str) (defScope (top 55)) := ⟨rfl, rfl, rfl, by decide +kernel, rfl, by decide +kernel, by decide +kernel⟩
  exact fn_d hx hf S (fun _ _ _ _ _ _ us hl => match us, hl with | [_, _], _ => rfl) fun cdv A outer s H E =>
    dss_cons (ds_set 2 (de_tup (da_nil))) (dss_cons (ds_for (own := [3]) (di_rng1 (da_cons (de_call ((D__law_pick T hx).mono (by omega)) T.g__law_pick (da_cons (de_var 0) (da_cons (de_var 1) (da_nil)))) (da_nil)) T.n_range) (dg_name 3) (dss_cons (ds_set 2 (de_op od_add (de_var 2) (de_tup (da_cons (de_ix (de_lst (da_cons (de_int) (da_cons (de_int) (da_cons (de_int) (da_cons (de_call ((D__law_pick T hx).mono (by omega)) T.g__law_pick (da_cons (de_var 0) (da_cons (de_int) (da_nil)))) (da_nil)))))) (de_call ((D__law_pick T hx).mono (by omega)) T.g__law_pick (da_cons (de_var 0) (da_cons (de_int) (da_nil))))) (da_nil))))) (dss_nil))) (dss_cons (ds_set 4 (de_ix (de_lst (da_cons (de_int) (da_cons (de_int) (da_cons (de_op od_add (de_int) (de_call ((D__law_pick T hx).mono (by omega)) T.g__law_pick (da_cons (de_var 0) (da_cons (de_int) (da_nil))))) (da_nil))))) (de_call ((D__law_pick T hx).mono (by omega)) T.g__law_pick (da_cons (de_var 0) (da_cons (de_int) (da_nil)))))) (dss_cons (ds_ret (de_tup (da_cons (de_call ((D__law_pick T hx).mono (by omega)) T.g__law_pick (da_cons (de_var 0) (da_cons (de_int) (da_nil)))) (da_cons (de_op od_add (de_int) (de_call ((D__law_pick T hx).mono (by omega)) T.g__law_pick (da_cons (de_var 0) (da_cons (de_int) (da_nil))))) (da_cons (de_var 4) (da_cons (de_op od_add (de_var 2) (de_tup (da_cons (de_int) (da_nil)))) (da_nil))))))) (dss_nil))))
theorem D__law_drawn (T : Txt G a) (hx : G.xa = none) : FnD G base 3 a._law_drawn 3 F__law_drawn := by
  obtain ⟨fd, hf⟩ := T.t__law_drawn.fn
  have S : FnScope [("_law_row" : Str), ("_law_most_here" : Str), ("_law_many" : Str), ("_law_boxes" : Str), ("_law_k" : Str)] ([("_law_row" : Str), ("_law_most_here" : Str), ("_law_many" : Str)] : List Str) (defScope (top 56)) := ⟨rfl, rfl, rfl, by decide +kernel, rfl, by decide +kernel, by decide +kernel⟩
  exact fn_d hx hf S (fun _ _ _ _ _ _ us hl => match us, hl with | [_, _, _], _ => rfl) fun cdv A outer s H E =>
    dss_cons (ds_set 3 (de_tup (da_nil))) (dss_cons (ds_for (own := [4]) (di_rng1 (da_cons (de_op od_add (de_int) (de_call ((D__law_pick T hx).mono (by omega)) T.g__law_pick (da_cons (de_var 0) (da_cons (de_var 1) (da_nil))))) (da_nil)) T.n_range) (dg_name 4) (dss_cons (ds_set 3 (de_op od_add (de_var 3) (de_tup (da_cons (de_call ((D__law_box T hx).mono (by omega)) T.g__law_box (da_cons (de_var 0) (da_cons (de_var 2) (da_nil)))) (da_nil))))) (dss_nil))) (dss_cons (ds_ret (de_dsp (xs := [("boxes" : Str), ("kept" : Str)]) (dp_cons (de_var 3) (dp_cons (de_ix (de_lst (da_cons (de_tup (da_nil)) (da_cons (de_tup (da_cons (de_int) (da_nil))) (da_cons (de_tup (da_cons (de_int) (da_nil))) (da_cons (de_tup (da_cons (de_int) (da_cons (de_int) (da_nil)))) (da_nil)))))) (de_call ((D__law_pick T hx).mono (by omega)) T.g__law_pick (da_cons (de_var 0) (da_cons (de_int) (da_nil))))) (dp_nil))))) (dss_nil)))
theorem D__law_fraction (T : Txt G a) (hx : G.xa = none) : FnD G base 1 a._law_fraction 2 F__law_fraction := by
  obtain ⟨fd, hf⟩ := T.t__law_fraction.fn
  have S : FnScope [("_law_top" : Str), ("_law_bottom" : Str), ("_law_one" : Str), ("_law_two" : Str)] ([("_law_top" : Str), ("_law_bottom" : Str)] : List Str) (defScope (top 50)) := ⟨rfl, rfl, rfl, by decide +kernel, rfl, by decide +kernel, by decide +kernel⟩
  exact fn_d hx hf S (fun _ _ _ _ _ _ us hl => match us, hl with | [_, _], _ => rfl) fun cdv A outer s H E =>
    dss_cons (ds_par2 2 3 (da_cons (de_var 0) (da_cons (de_var 1) (da_nil)))) (dss_cons (ds_while _ (dt_cmp od_ne (de_var 3) (de_int)) (dss_cons (ds_par2 2 3 (da_cons (de_var 3) (da_cons (de_op od_mod (de_var 2) (de_var 3)) (da_nil)))) (dss_nil))) (dss_cons (ds_ret (de_tup (da_cons (de_op od_fdiv (de_var 0) (de_var 2)) (da_cons (de_op od_fdiv (de_var 1) (de_var 2)) (da_nil))))) (dss_nil)))
theorem D__law_moves (T : Txt G a) (hx : G.xa = none) : FnD G base 2 a._law_moves 3 F__law_moves := by
  obtain ⟨fd, hf⟩ := T.t__law_moves.fn
  have S : FnScope [("_law_d" : Str), ("_law_standing" : Str), ("_law_box_here" : Str), ("_law_kind" : Str), ("_law_price" : Str), ("_law_half" : Str), ("_law_chances" : Str), ("_law_count" : Str), ("_law_owed" : Str), ("_law_rare" : Str), ("_law_part" : Str), ("_law_found" : Str), ("_law_rows" : Str), ("_law_word" : Str), ("_law_top" : Str), ("_law_told_of" : Str), ("_law_later" : Str)] ([("_law_d" : Str), ("_law_standing" : Str), ("_law_box_here" : Str)] : List Str) (defScope (top 58)) := ⟨rfl, rfl, rfl, by decide +kernel, rfl, by decide +kernel, by decide +kernel⟩
  exact fn_d hx hf S (fun _ _ _ _ _ _ us hl => match us, hl with | [_, _, _], _ => rfl) fun cdv A outer s H E =>
    dss_cons (ds_asg (own := [3, 4, 5, 6]) (de_ix (de_ix (de_var 0) (de_str)) (de_var 2)) (dg_tup (dgs_cons (dg_name 3) (dgs_cons (dg_name 4) (dgs_cons (dg_name 5) (dgs_cons (dg_name 6) (dgs_nil))))))) (dss_cons (ds_asg (own := [7, 8]) (de_ix (de_var 1) (de_var 3)) (dg_tup (dgs_cons (dg_name 7) (dgs_cons (dg_name 8) (dgs_nil))))) (dss_cons (ds_set 9 (de_if (dt_cmp od_lt (de_var 7) (de_cb ca_len T.n_len PySem.boot_len (da_cons (de_var 6) (da_nil)))) (de_ix (de_var 6) (de_var 7)) (de_int))) (dss_cons (ds_set 10 (de_if (dt_val (de_var 8)) (de_int) (de_var 5))) (dss_cons (ds_set 11 (de_lstM (da_nil))) (dss_cons (ds_set 12 (de_lst (da_cons (de_tup (da_cons (de_str) (da_cons (de_op od_mul (de_int) (de_op od_sub (de_int) (de_var 9))) (da_cons (de_tup (da_cons (de_op od_add (de_var 7) (de_int)) (da_cons (de_var 8) (da_nil)))) (da_nil))))) (da_cons (de_tup (da_cons (de_str) (da_cons (de_op od_mul (de_var 9) (de_op od_sub (de_int) (de_var 10))) (da_cons (de_tup (da_cons (de_int) (da_cons (de_bl) (da_nil)))) (da_nil))))) (da_nil))))) (dss_cons (ds_for (own := [13, 14, 15]) (di_seq (de_op od_add (de_var 12) (de_lst (da_cons (de_tup (da_cons (de_str) (da_cons (de_op od_mul (de_var 9) (de_var 10)) (da_cons (de_tup (da_cons (de_int) (da_cons (de_bl) (da_nil)))) (da_nil))))) (da_nil))))) (dg_tup (dgs_cons (dg_name 13) (dgs_cons (dg_name 14) (dgs_cons (dg_name 15) (dgs_nil))))) (dss_cons (ds_if (dt_cmp od_gt (de_var 14) (de_int)) (dss_cons (ds_set 16 (de_if (dt_cmp od_eq (de_var 3) (de_int)) (de_tup (da_cons (de_var 15) (da_cons (de_ix (de_var 1) (de_int)) (da_nil)))) (de_tup (da_cons (de_ix (de_var 1) (de_int)) (da_cons (de_var 15) (da_nil)))))) (dss_cons (ds_expr (de_mt md_app PySem.F.slot_list_append PySem.F.type_list_append (de_var 11) (da_cons (de_tup (da_cons (de_var 13) (da_cons (de_call ((D__law_fraction T hx).mono (by omega)) T.g__law_fraction (da_cons (de_var 14) (da_cons (de_int) (da_nil)))) (da_cons (de_var 16) (da_nil))))) (da_nil)))) (dss_nil))) (dss_nil)) (dss_nil))) (dss_cons (ds_ret (de_fz (de_var 11))) (dss_nil))))))))
theorem D__law_all (T : Txt G a) (hx : G.xa = none) : FnD G base 3 a._law_all 3 F__law_all := by
  obtain ⟨fd, hf⟩ := T.t__law_all.fn
  have S : FnScope [("_law_d" : Str), ("_law_begin" : Str), ("_law_is_open" : Str), ("_law_found" : Str), ("_law_seen" : Str), ("_law_k" : Str), ("_law_box_here" : Str), ("_law_word" : Str), ("_law_part" : Str), ("_law_later" : Str)] ([("_law_d" : Str), ("_law_begin" : Str), ("_law_is_open" : Str)] : List Str) (defScope (top 59)) := ⟨rfl, rfl, rfl, by decide +kernel, rfl, by decide +kernel, by decide +kernel⟩
  exact fn_d hx hf S (fun _ _ _ _ _ _ us hl => match us, hl with | [_, _, _], _ => rfl) fun cdv A outer s H E =>
    dss_cons (ds_par3 3 4 5 (da_cons (de_lstM (da_cons (de_var 1) (da_nil))) (da_cons (de_dsp1M (de_var 1) (de_bl)) (da_cons (de_int) (da_nil))))) (dss_cons (ds_while _ (dt_cmp od_lt (de_var 5) (de_cb ca_len T.n_len PySem.boot_len (da_cons (de_var 3) (da_nil)))) (dss_cons (ds_for (own := [6]) (di_rng1 (da_cons (de_cb ca_len T.n_len PySem.boot_len (da_cons (de_ix (de_var 0) (de_str)) (da_nil))) (da_nil)) T.n_range) (dg_name 6) (dss_cons (ds_for (own := [7, 8, 9]) (di_seq (de_call ((D__law_moves T hx).mono (by omega)) T.g__law_moves (da_cons (de_var 0) (da_cons (de_ix (de_var 3) (de_var 5)) (da_cons (de_var 6) (da_nil)))))) (dg_tup (dgs_cons (dg_name 7) (dgs_cons (dg_name 8) (dgs_cons (dg_name 9) (dgs_nil))))) (dss_cons (ds_if (dt_w (dw_and (dt_cmp od_notin (de_var 9) (de_var 4)) (dw_and1 (dt_not (dt_w (dw_and (dt_val (de_var 2)) (dw_and1 (dt_cmp od_eq (de_var 7) (de_str))))))))) (dss_cons (ds_put (de_bl) (de_var 4) (de_var 9)) (dss_cons (ds_expr (de_mt md_app PySem.F.slot_list_append PySem.F.type_list_append (de_var 3) (da_cons (de_var 9) (da_nil)))) (dss_nil))) (dss_nil)) (dss_nil))) (dss_nil))) (dss_cons (ds_set 5 (de_op od_add (de_var 5) (de_int))) (dss_nil)))) (dss_cons (ds_ret (de_srt (da_cons (de_var 3) (da_nil)) T.n_sorted)) (dss_nil)))
theorem D__law_first (T : Txt G a) (hx : G.xa = none) : FnD G base 1 a._law_first 0 F__law_first := by
  obtain ⟨fd, hf⟩ := T.t__law_first.fn
  have S : FnScope [] ([] : List Str) (defScope (top 49)) := ⟨rfl, rfl, rfl, by decide +kernel, rfl, by decide +kernel, by decide +kernel⟩
  exact fn_d hx hf S (fun _ _ _ _ _ _ us hl => match us, hl with | [], _ => rfl) fun cdv A outer s H E =>
    dss_cons (ds_ret (de_tup (da_cons (de_tup (da_cons (de_int) (da_cons (de_bl) (da_nil)))) (da_cons (de_tup (da_cons (de_int) (da_cons (de_bl) (da_nil)))) (da_nil))))) (dss_nil)
theorem D__law_stand (T : Txt G a) (hx : G.xa = none) : FnD G base 4 a._law_stand 2 F__law_stand := by
  obtain ⟨fd, hf⟩ := T.t__law_stand.fn
  have S : FnScope [("_law_row" : Str), ("_law_d" : Str), ("_law_every" : Str)] ([("_law_row" : Str), ("_law_d" : Str)] : List Str) (defScope (top 60)) := ⟨rfl, rfl, rfl, by decide +kernel, rfl, by decide +kernel, by decide +kernel⟩
  exact fn_d hx hf S (fun _ _ _ _ _ _ us hl => match us, hl with | [_, _], _ => rfl) fun cdv A outer s H E =>
    dss_cons (ds_set 2 (de_call ((D__law_all T hx).mono (by omega)) T.g__law_all (da_cons (de_var 1) (da_cons (de_call0 ((D__law_first T hx).mono (by omega)) T.g__law_first) (da_cons (de_bl) (da_nil)))))) (dss_cons (ds_ret (de_ix (de_lst (da_cons (de_call0 ((D__law_first T hx).mono (by omega)) T.g__law_first) (da_cons (de_ix (de_var 2) (de_call ((D__law_pick T hx).mono (by omega)) T.g__law_pick (da_cons (de_var 0) (da_cons (de_cb ca_len T.n_len PySem.boot_len (da_cons (de_var 2) (da_nil))) (da_nil))))) (da_nil)))) (de_call ((D__law_pick T hx).mono (by omega)) T.g__law_pick (da_cons (de_var 0) (da_cons (de_int) (da_nil)))))) (dss_nil))
theorem D_is_from (T : Txt G a) (hx : G.xa = none) : FnD G base 1 a.is_from 3 F_is_from := by
  obtain ⟨fd, hf⟩ := T.t_is_from.fn
  have S : FnScope [("value" : Str), ("low" : Str), ("high" : Str)] ([("value" : Str), ("low" : Str), ("high" : Str)] : List Str) (defScope (top 25)) := ⟨rfl, rfl, rfl, by decide +kernel, rfl, by decide +kernel, by decide +kernel⟩
  exact fn_d hx hf S (fun _ _ _ _ _ _ us hl => match us, hl with | [_, _, _], _ => rfl) fun cdv A outer s H E =>
    dss_cons (ds_ret (de_and (de_isi "int" (de_var 0) T.n_isinstance T.n_int PyProof.Rows.boot_int) (de_and (de_not (de_isi "bool" (de_var 0) T.n_isinstance T.n_bool PyProof.Rows.boot_bool)) (de_one (de_chain od_le od_le (de_var 1) (de_var 0) (de_var 2)))))) (dss_nil)
theorem D_are_chances (T : Txt G a) (hx : G.xa = none) : FnD G base 2 a.are_chances 1 F_are_chances := by
  obtain ⟨fd, hf⟩ := T.t_are_chances.fn
  have S : FnScope [("value" : Str), ("one" : Str)] ([("value" : Str)] : List Str) (defScope (top 26)) := ⟨rfl, rfl, rfl, by decide +kernel, rfl, by decide +kernel, by decide +kernel⟩
  exact fn_d hx hf S (fun _ _ _ _ _ _ us hl => match us, hl with | [_], _ => rfl) fun cdv A outer s H E =>
    dss_cons (ds_if (dt_w (dw_or (dt_not (dt_val (de_isi "tuple" (de_var 0) T.n_isinstance T.n_tuple PyProof.Rows.boot_tuple))) (dw_or1 (dt_not (dt_chain od_le od_le (de_int) (de_cb ca_len T.n_len PySem.boot_len (da_cons (de_var 0) (da_nil))) (de_gc T.c_MOST_CHANCES)))))) (dss_cons (ds_ret (de_bl)) (dss_nil)) (dss_nil)) (dss_cons (ds_ret (de_and (de_cb ca_all T.n_all PyProof.Rows.boot_all (da_cons (de_lc [("one", 1)] (di_seq (de_sl (de_var 0) (do_no) (do_so (de_neg)))) (blk_mk (by kernel_rfl)) (fun _ _ _ _ _ => dg_name 1) (fun _ _ _ _ _ => dts_nil) (fun _ _ _ _ _ => de_call ((D_is_from T hx).mono (by omega)) T.g_is_from (da_cons (de_var 1) (da_cons (de_int) (da_cons (de_op od_sub (de_gc T.c_SURE) (de_int)) (da_nil)))))) (da_nil))) (de_one (de_call ((D_is_from T hx).mono (by omega)) T.g_is_from (da_cons (de_ix (de_var 0) (de_neg)) (da_cons (de_gc T.c_SURE) (da_cons (de_gc T.c_SURE) (da_nil)))))))) (dss_nil))
theorem D_is_box (T : Txt G a) (hx : G.xa = none) : FnD G base 3 a.is_box 1 F_is_box := by
  obtain ⟨fd, hf⟩ := T.t_is_box.fn
  have S : FnScope [("value" : Str)] ([("value" : Str)] : List Str) (defScope (top 27)) := ⟨rfl, rfl, rfl, by decide +kernel, rfl, by decide +kernel, by decide +kernel⟩
  exact fn_d hx hf S (fun _ _ _ _ _ _ us hl => match us, hl with | [_], _ => rfl) fun cdv A outer s H E =>
    dss_cons (ds_if (dt_w (dw_or (dt_not (dt_val (de_isi "tuple" (de_var 0) T.n_isinstance T.n_tuple PyProof.Rows.boot_tuple))) (dw_or (dt_cmp od_ne (de_cb ca_len T.n_len PySem.boot_len (da_cons (de_var 0) (da_nil))) (de_int)) (dw_or1 (dt_not (dt_val (de_call ((D_is_from T hx).mono (by omega)) T.g_is_from (da_cons (de_ix (de_var 0) (de_int)) (da_cons (de_int) (da_cons (de_int) (da_nil))))))))))) (dss_cons (ds_ret (de_bl)) (dss_nil)) (dss_nil)) (dss_cons (ds_ret (de_and (de_call ((D_is_from T hx).mono (by omega)) T.g_is_from (da_cons (de_ix (de_var 0) (de_int)) (da_cons (de_int) (da_cons (de_int) (da_nil))))) (de_and (de_call ((D_is_from T hx).mono (by omega)) T.g_is_from (da_cons (de_ix (de_var 0) (de_int)) (da_cons (de_int) (da_cons (de_gc T.c_SURE) (da_nil))))) (de_one (de_call ((D_are_chances T hx).mono (by omega)) T.g_are_chances (da_cons (de_ix (de_var 0) (de_int)) (da_nil))))))) (dss_nil))
theorem D_are_kept (T : Txt G a) (hx : G.xa = none) : FnD G base 2 a.are_kept 1 F_are_kept := by
  obtain ⟨fd, hf⟩ := T.t_are_kept.fn
  have S : FnScope [("value" : Str), ("one" : Str)] ([("value" : Str)] : List Str) (defScope (top 28)) := ⟨rfl, rfl, rfl, by decide +kernel, rfl, by decide +kernel, by decide +kernel⟩
  exact fn_d hx hf S (fun _ _ _ _ _ _ us hl => match us, hl with | [_], _ => rfl) fun cdv A outer s H E =>
    dss_cons (ds_if (dt_w (dw_or (dt_not (dt_val (de_isi "tuple" (de_var 0) T.n_isinstance T.n_tuple PyProof.Rows.boot_tuple))) (dw_or1 (dt_not (dt_val (de_cb ca_all T.n_all PyProof.Rows.boot_all (da_cons (de_lc [("one", 1)] (di_seq (de_var 0)) (blk_mk (by kernel_rfl)) (fun _ _ _ _ _ => dg_name 1) (fun _ _ _ _ _ => dts_nil) (fun _ _ _ _ _ => de_call ((D_is_from T hx).mono (by omega)) T.g_is_from (da_cons (de_var 1) (da_cons (de_int) (da_cons (de_int) (da_nil)))))) (da_nil)))))))) (dss_cons (ds_ret (de_bl)) (dss_nil)) (dss_nil)) (dss_cons (ds_ret (de_cmp od_eq (de_ct ca_list T.n_list PyProof.Rows.boot_list (da_cons (de_var 0) (da_nil))) (de_soset (de_var 0) T.n_sorted T.n_set))) (dss_nil))
theorem D_Book_init (T : Txt G a) (hx : G.xa = none) {fd : FuncData} {dvs : List V} (hf : FunD G.K "__init__" "Book.__init__" (defArgs (inClass (top 29) 0)) (defBody (inClass (top 29) 0)) (defScope (inClass (top 29) 0)) dvs [] a.Book_init fd) : FnOk G.P G.w G.K G.mg base (L2.CX G.P G.w) 4 a.Book_init fd ([("self" : Str), ("boxes" : Str), ("kept" : Str)] : List Str) (spD G 3 F_Book_init) := by
  have S : FnScope [("self" : Str), ("boxes" : Str), ("kept" : Str), ("index" : Str), ("box" : Str)] ([("self" : Str), ("boxes" : Str), ("kept" : Str)] : List Str) (defScope (inClass (top 29) 0)) := ⟨rfl, rfl, rfl, by decide +kernel, rfl, by decide +kernel, by decide +kernel⟩
  exact fn_dd hx hf S fun cdv A outer s H E =>
    dss_cons (ds_if (dt_w (dw_or (dt_not (dt_val (de_isi "tuple" (de_var 1) T.n_isinstance T.n_tuple PyProof.Rows.boot_tuple))) (dw_or1 (dt_not (dt_chain od_le od_le (de_int) (de_cb ca_len T.n_len PySem.boot_len (da_cons (de_var 1) (da_nil))) (de_gc T.c_MOST_BOXES)))))) (dss_cons (ds_rz1 (X_BadBox T) (by omega) (by decide) (da_cons (de_non) (da_nil))) (dss_nil)) (dss_nil)) (dss_cons (ds_for (own := [3, 4]) (di_enum (da_cons (de_var 1) (da_nil)) T.n_enumerate) (dg_tup (dgs_cons (dg_name 3) (dgs_cons (dg_name 4) (dgs_nil)))) (dss_cons (ds_if (dt_not (dt_val (de_call ((D_is_box T hx).mono (by omega)) T.g_is_box (da_cons (de_var 4) (da_nil))))) (dss_cons (ds_rz1 (X_BadBox T) (by omega) (by decide) (da_cons (de_var 3) (da_nil))) (dss_nil)) (dss_nil)) (dss_nil))) (dss_cons (ds_if (dt_not (dt_val (de_call ((D_are_kept T hx).mono (by omega)) T.g_are_kept (da_cons (de_var 2) (da_nil))))) (dss_cons (ds_rz0 (X_BadKept T)) (dss_nil)) (dss_nil)) (dss_cons (ds_fst (ct_ok T) ct_small (de_var 1) (de_var 0)) (dss_cons (ds_fst (ct_ok T) ct_small (de_var 2) (de_var 0)) (dss_nil)))))
theorem M_Book_2 (T : Txt G a) (hx : G.xa = none) : MkOk G base 4 0 3 F_Book_init [] "Book" := by
  obtain ⟨fd, hf⟩ := T.t_Book_init
  obtain ⟨ds, hv, hb⟩ := hf.binds1 (ps := ([("self" : Str), ("boxes" : Str), ("kept" : Str)] : List Str)) 3 1 (by simp) rfl (fun T0 kV doc pm an cdv ct us its hu hi => match us, hu, its, hi with | [_, _, _], _, [_], _ => ⟨_, rfl, rfl⟩)
  exact ⟨⟨_, _, _, fd, _, _, ds, by rw [T.cl]; rfl, T.g_Book, T.mk_Book, D_Book_init T hx hf, rfl, hb, hv, fun _ _ => rfl⟩, fun ds μ h => if_neg h⟩
theorem D__law_made (T : Txt G a) (hx : G.xa = none) : FnD G base 6 a._law_made 1 F__law_made := by
  obtain ⟨fd, hf⟩ := T.t__law_made.fn
  have S : FnScope [("_law_d" : Str)] ([("_law_d" : Str)] : List Str) (defScope (top 57)) := ⟨rfl, rfl, rfl, by decide +kernel, rfl, by decide +kernel, by decide +kernel⟩
  exact fn_d hx hf S (fun _ _ _ _ _ _ us hl => match us, hl with | [_], _ => rfl) fun cdv A outer s H E =>
    dss_cons (ds_ret (de_mkF (ct_ok T) (M_Book_2 T hx) (by omega) (da_cons (de_ix (de_var 0) (de_str)) (da_cons (de_ix (de_var 0) (de_str)) (da_nil))))) (dss_nil)
theorem D__law_cost (T : Txt G a) (hx : G.xa = none) : FnD G base 1 a._law_cost 3 F__law_cost := by
  obtain ⟨fd, hf⟩ := T.t__law_cost.fn
  have S : FnScope [("_law_d" : Str), ("_law_box_here" : Str), ("_law_by" : Str)] ([("_law_d" : Str), ("_law_box_here" : Str), ("_law_by" : Str)] : List Str) (defScope (top 61)) := ⟨rfl, rfl, rfl, by decide +kernel, rfl, by decide +kernel, by decide +kernel⟩
  exact fn_d hx hf S (fun _ _ _ _ _ _ us hl => match us, hl with | [_, _, _], _ => rfl) fun cdv A outer s H E =>
    dss_cons (ds_ret (de_if (dt_cmp od_eq (de_var 2) (de_str)) (de_int) (de_ix (de_ix (de_ix (de_var 0) (de_str)) (de_var 1)) (de_int)))) (dss_nil)
theorem D__law_plus (T : Txt G a) (hx : G.xa = none) : FnD G base 2 a._law_plus 2 F__law_plus := by
  obtain ⟨fd, hf⟩ := T.t__law_plus.fn
  have S : FnScope [("_law_one" : Str), ("_law_two" : Str)] ([("_law_one" : Str), ("_law_two" : Str)] : List Str) (defScope (top 51)) := ⟨rfl, rfl, rfl, by decide +kernel, rfl, by decide +kernel, by decide +kernel⟩
  exact fn_d hx hf S (fun _ _ _ _ _ _ us hl => match us, hl with | [_, _], _ => rfl) fun cdv A outer s H E =>
    dss_cons (ds_ret (de_call ((D__law_fraction T hx).mono (by omega)) T.g__law_fraction (da_cons (de_op od_add (de_op od_mul (de_ix (de_var 0) (de_int)) (de_ix (de_var 1) (de_int))) (de_op od_mul (de_ix (de_var 1) (de_int)) (de_ix (de_var 0) (de_int)))) (da_cons (de_op od_mul (de_ix (de_var 0) (de_int)) (de_ix (de_var 1) (de_int))) (da_nil))))) (dss_nil)
theorem D__law_times (T : Txt G a) (hx : G.xa = none) : FnD G base 2 a._law_times 2 F__law_times := by
  obtain ⟨fd, hf⟩ := T.t__law_times.fn
  have S : FnScope [("_law_one" : Str), ("_law_two" : Str)] ([("_law_one" : Str), ("_law_two" : Str)] : List Str) (defScope (top 52)) := ⟨rfl, rfl, rfl, by decide +kernel, rfl, by decide +kernel, by decide +kernel⟩
  exact fn_d hx hf S (fun _ _ _ _ _ _ us hl => match us, hl with | [_, _], _ => rfl) fun cdv A outer s H E =>
    dss_cons (ds_ret (de_call ((D__law_fraction T hx).mono (by omega)) T.g__law_fraction (da_cons (de_op od_mul (de_ix (de_var 0) (de_int)) (de_ix (de_var 1) (de_int))) (da_cons (de_op od_mul (de_ix (de_var 0) (de_int)) (de_ix (de_var 1) (de_int))) (da_nil))))) (dss_nil)
theorem D__law_less (T : Txt G a) (hx : G.xa = none) : FnD G base 1 a._law_less 2 F__law_less := by
  obtain ⟨fd, hf⟩ := T.t__law_less.fn
  have S : FnScope [("_law_one" : Str), ("_law_two" : Str)] ([("_law_one" : Str), ("_law_two" : Str)] : List Str) (defScope (top 53)) := ⟨rfl, rfl, rfl, by decide +kernel, rfl, by decide +kernel, by decide +kernel⟩
  exact fn_d hx hf S (fun _ _ _ _ _ _ us hl => match us, hl with | [_, _], _ => rfl) fun cdv A outer s H E =>
    dss_cons (ds_ret (de_cmp od_lt (de_op od_mul (de_ix (de_var 0) (de_int)) (de_ix (de_var 1) (de_int))) (de_op od_mul (de_ix (de_var 1) (de_int)) (de_ix (de_var 0) (de_int))))) (dss_nil)
theorem D__law_most (T : Txt G a) (hx : G.xa = none) : FnD G base 2 a._law_most 1 F__law_most := by
  obtain ⟨fd, hf⟩ := T.t__law_most.fn
  have S : FnScope [("_law_some" : Str), ("_law_found" : Str), ("_law_one" : Str)] ([("_law_some" : Str)] : List Str) (defScope (top 54)) := ⟨rfl, rfl, rfl, by decide +kernel, rfl, by decide +kernel, by decide +kernel⟩
  exact fn_d hx hf S (fun _ _ _ _ _ _ us hl => match us, hl with | [_], _ => rfl) fun cdv A outer s H E =>
    dss_cons (ds_set 1 (de_ix (de_var 0) (de_int))) (dss_cons (ds_for (own := [2]) (di_seq (de_var 0)) (dg_name 2) (dss_cons (ds_if (dt_val (de_call ((D__law_less T hx).mono (by omega)) T.g__law_less (da_cons (de_var 1) (da_cons (de_var 2) (da_nil))))) (dss_cons (ds_set 1 (de_var 2)) (dss_nil)) (dss_nil)) (dss_nil))) (dss_cons (ds_ret (de_var 1)) (dss_nil)))
theorem D__law_within (T : Txt G a) (hx : G.xa = none) : FnD G base 4 a._law_within 4 F__law_within := by
  obtain ⟨fd, hf⟩ := T.t__law_within.fn
  have S : FnScope [("_law_d" : Str), ("_law_standing" : Str), ("_law_by" : Str), ("_law_most_here" : Str), ("_law_every" : Str), ("_law_rows" : Str), ("_law_n" : Str), ("_law_now" : Str), ("_law_one" : Str), ("_law_best" : Str), ("_law_box_here" : Str), ("_law_left" : Str), ("_law_total" : Str), ("_law_word" : Str), ("_law_part" : Str), ("_law_later" : Str), ("_law_told_of" : Str)] ([("_law_d" : Str), ("_law_standing" : Str), ("_law_by" : Str), ("_law_most_here" : Str)] : List Str) (defScope (top 62)) := ⟨rfl, rfl, rfl, by decide +kernel, rfl, by decide +kernel, by decide +kernel⟩
  exact fn_d hx hf S (fun _ _ _ _ _ _ us hl => match us, hl with | [_, _, _, _], _ => rfl) fun cdv A outer s H E =>
    dss_cons (ds_set 4 (de_call ((D__law_all T hx).mono (by omega)) T.g__law_all (da_cons (de_var 0) (da_cons (de_var 1) (da_cons (de_bl) (da_nil)))))) (dss_cons (ds_set 5 (de_lstM (da_nil))) (dss_cons (ds_for (own := [6]) (di_rng1 (da_cons (de_op od_add (de_var 3) (de_int)) (da_nil)) T.n_range) (dg_name 6) (dss_cons (ds_set 7 (de_dicM)) (dss_cons (ds_for (own := [8]) (di_seq (de_var 4)) (dg_name 8) (dss_cons (ds_set 9 (de_tup (da_cons (de_int) (da_cons (de_int) (da_nil))))) (dss_cons (ds_for (own := [10]) (di_rng1 (da_cons (de_cb ca_len T.n_len PySem.boot_len (da_cons (de_ix (de_var 0) (de_str)) (da_nil))) (da_nil)) T.n_range) (dg_name 10) (dss_cons (ds_set 11 (de_op od_sub (de_var 6) (de_call ((D__law_cost T hx).mono (by omega)) T.g__law_cost (da_cons (de_var 0) (da_cons (de_var 10) (da_cons (de_var 2) (da_nil))))))) (dss_cons (ds_if (dt_cmp od_ge (de_var 11) (de_int)) (dss_cons (ds_set 12 (de_tup (da_cons (de_int) (da_cons (de_int) (da_nil))))) (dss_cons (ds_for (own := [13, 14, 15]) (di_seq (de_call ((D__law_moves T hx).mono (by omega)) T.g__law_moves (da_cons (de_var 0) (da_cons (de_var 8) (da_cons (de_var 10) (da_nil)))))) (dg_tup (dgs_cons (dg_name 13) (dgs_cons (dg_name 14) (dgs_cons (dg_name 15) (dgs_nil))))) (dss_cons (ds_set 16 (de_if (dt_cmp od_eq (de_var 13) (de_str)) (de_tup (da_cons (de_int) (da_cons (de_int) (da_nil)))) (de_ix (de_ix (de_var 5) (de_var 11)) (de_var 15)))) (dss_cons (ds_set 12 (de_call ((D__law_plus T hx).mono (by omega)) T.g__law_plus (da_cons (de_var 12) (da_cons (de_call ((D__law_times T hx).mono (by omega)) T.g__law_times (da_cons (de_var 14) (da_cons (de_var 16) (da_nil)))) (da_nil))))) (dss_nil)))) (dss_cons (ds_set 9 (de_call ((D__law_most T hx).mono (by omega)) T.g__law_most (da_cons (de_lst (da_cons (de_var 9) (da_cons (de_var 12) (da_nil)))) (da_nil)))) (dss_nil)))) (dss_nil)) (dss_nil)))) (dss_cons (ds_put (de_var 9) (de_var 7) (de_var 8)) (dss_nil))))) (dss_cons (ds_expr (de_mt md_app PySem.F.slot_list_append PySem.F.type_list_append (de_var 5) (da_cons (de_fz (de_var 7)) (da_nil)))) (dss_nil))))) (dss_cons (ds_ret (de_fz (de_var 5))) (dss_nil))))
theorem D_is_pair (T : Txt G a) (hx : G.xa = none) : FnD G base 2 a.is_pair 1 F_is_pair := by
  obtain ⟨fd, hf⟩ := T.t_is_pair.fn
  have S : FnScope [("value" : Str)] ([("value" : Str)] : List Str) (defScope (top 35)) := ⟨rfl, rfl, rfl, by decide +kernel, rfl, by decide +kernel, by decide +kernel⟩
  exact fn_d hx hf S (fun _ _ _ _ _ _ us hl => match us, hl with | [_], _ => rfl) fun cdv A outer s H E =>
    dss_cons (ds_if (dt_w (dw_or (dt_not (dt_val (de_isi "tuple" (de_var 0) T.n_isinstance T.n_tuple PyProof.Rows.boot_tuple))) (dw_or1 (dt_cmp od_ne (de_cb ca_len T.n_len PySem.boot_len (da_cons (de_var 0) (da_nil))) (de_int))))) (dss_cons (ds_ret (de_bl)) (dss_nil)) (dss_nil)) (dss_cons (ds_ret (de_and (de_call ((D_is_from T hx).mono (by omega)) T.g_is_from (da_cons (de_ix (de_var 0) (de_int)) (da_cons (de_int) (da_cons (de_gc T.c_MOST_CHANCES) (da_nil))))) (de_one (de_isi "bool" (de_ix (de_var 0) (de_int)) T.n_isinstance T.n_bool PyProof.Rows.boot_bool)))) (dss_nil))
theorem D_with_kind (T : Txt G a) (hx : G.xa = none) : FnD G base 1 a.with_kind 3 F_with_kind := by
  obtain ⟨fd, hf⟩ := T.t_with_kind.fn
  have S : FnScope [("standing" : Str), ("kind" : Str), ("told" : Str)] ([("standing" : Str), ("kind" : Str), ("told" : Str)] : List Str) (defScope (top 32)) := ⟨rfl, rfl, rfl, by decide +kernel, rfl, by decide +kernel, by decide +kernel⟩
  exact fn_d hx hf S (fun _ _ _ _ _ _ us hl => match us, hl with | [_, _, _], _ => rfl) fun cdv A outer s H E =>
    dss_cons (ds_ret (de_if (dt_cmp od_eq (de_var 1) (de_int)) (de_tup (da_cons (de_var 2) (da_cons (de_ix (de_var 0) (de_int)) (da_nil)))) (de_tup (da_cons (de_ix (de_var 0) (de_int)) (da_cons (de_var 2) (da_nil)))))) (dss_nil)
theorem D_divisor (T : Txt G a) (hx : G.xa = none) : FnD G base 1 a.divisor 2 F_divisor := by
  obtain ⟨fd, hf⟩ := T.t_divisor.fn
  have S : FnScope [("one" : Str), ("other" : Str)] ([("one" : Str), ("other" : Str)] : List Str) (defScope (top 10)) := ⟨rfl, rfl, rfl, by decide +kernel, rfl, by decide +kernel, by decide +kernel⟩
  exact fn_d hx hf S (fun _ _ _ _ _ _ us hl => match us, hl with | [_, _], _ => rfl) fun cdv A outer s H E =>
    dss_cons (ds_while _ (dt_cmp od_ne (de_var 1) (de_int)) (dss_cons (ds_par2 0 1 (da_cons (de_var 1) (da_cons (de_op od_mod (de_var 0) (de_var 1)) (da_nil)))) (dss_nil))) (dss_cons (ds_ret (de_var 0)) (dss_nil))
theorem D_fraction (T : Txt G a) (hx : G.xa = none) : FnD G base 2 a.fraction 2 F_fraction := by
  obtain ⟨fd, hf⟩ := T.t_fraction.fn
  have S : FnScope [("top" : Str), ("bottom" : Str), ("by" : Str)] ([("top" : Str), ("bottom" : Str)] : List Str) (defScope (top 11)) := ⟨rfl, rfl, rfl, by decide +kernel, rfl, by decide +kernel, by decide +kernel⟩
  exact fn_d hx hf S (fun _ _ _ _ _ _ us hl => match us, hl with | [_, _], _ => rfl) fun cdv A outer s H E =>
    dss_cons (ds_set 2 (de_call ((D_divisor T hx).mono (by omega)) T.g_divisor (da_cons (de_var 0) (da_cons (de_var 1) (da_nil))))) (dss_cons (ds_ret (de_tup (da_cons (de_op od_fdiv (de_var 0) (de_var 2)) (da_cons (de_op od_fdiv (de_var 1) (de_var 2)) (da_nil))))) (dss_nil))
theorem D_moves_of (T : Txt G a) (hx : G.xa = none) : FnD G base 3 a.moves_of 3 F_moves_of := by
  obtain ⟨fd, hf⟩ := T.t_moves_of.fn
  have S : FnScope [("book" : Str), ("standing" : Str), ("index" : Str), ("kind" : Str), ("price" : Str), ("half" : Str), ("chances" : Str), ("count" : Str), ("owed" : Str), ("rare" : Str), ("found" : Str), ("part" : Str), ("told" : Str)] ([("book" : Str), ("standing" : Str), ("index" : Str)] : List Str) (defScope (top 33)) := ⟨rfl, rfl, rfl, by decide +kernel, rfl, by decide +kernel, by decide +kernel⟩
  exact fn_d hx hf S (fun _ _ _ _ _ _ us hl => match us, hl with | [_, _, _], _ => rfl) fun cdv A outer s H E =>
    dss_cons (ds_asg (own := [3, 4, 5, 6]) (de_ix (de_fld (ct_ok T) (de_var 0)) (de_var 2)) (dg_tup (dgs_cons (dg_name 3) (dgs_cons (dg_name 4) (dgs_cons (dg_name 5) (dgs_cons (dg_name 6) (dgs_nil))))))) (dss_cons (ds_asg (own := [7, 8]) (de_ix (de_var 1) (de_var 3)) (dg_tup (dgs_cons (dg_name 7) (dgs_cons (dg_name 8) (dgs_nil))))) (dss_cons (ds_set 9 (de_ix (de_var 6) (de_cb ca_min T.n_min PyProof.Rows.boot_min (da_cons (de_var 7) (da_cons (de_op od_sub (de_cb ca_len T.n_len PySem.boot_len (da_cons (de_var 6) (da_nil))) (de_int)) (da_nil)))))) (dss_cons (ds_set 10 (de_lstM (da_nil))) (dss_cons (ds_if (dt_cmp od_lt (de_var 9) (de_gc T.c_SURE)) (dss_cons (ds_expr (de_mt md_app PySem.F.slot_list_append PySem.F.type_list_append (de_var 10) (da_cons (de_tup (da_cons (de_gc T.c_MISS) (da_cons (de_call ((D_fraction T hx).mono (by omega)) T.g_fraction (da_cons (de_op od_sub (de_gc T.c_SURE) (de_var 9)) (da_cons (de_gc T.c_SURE) (da_nil)))) (da_cons (de_call ((D_with_kind T hx).mono (by omega)) T.g_with_kind (da_cons (de_var 1) (da_cons (de_var 3) (da_cons (de_tup (da_cons (de_op od_add (de_var 7) (de_int)) (da_cons (de_var 8) (da_nil)))) (da_nil))))) (da_nil))))) (da_nil)))) (dss_nil)) (dss_nil)) (dss_cons (ds_set 11 (de_if (dt_val (de_var 8)) (de_gc T.c_SURE) (de_var 5))) (dss_cons (ds_if (dt_w (dw_and (dt_cmp od_gt (de_var 9) (de_int)) (dw_and1 (dt_cmp od_lt (de_var 11) (de_gc T.c_SURE))))) (dss_cons (ds_set 12 (de_call ((D_fraction T hx).mono (by omega)) T.g_fraction (da_cons (de_op od_mul (de_var 9) (de_op od_sub (de_gc T.c_SURE) (de_var 11))) (da_cons (de_op od_mul (de_gc T.c_SURE) (de_gc T.c_SURE)) (da_nil))))) (dss_cons (ds_expr (de_mt md_app PySem.F.slot_list_append PySem.F.type_list_append (de_var 10) (da_cons (de_tup (da_cons (de_gc T.c_OTHER) (da_cons (de_var 12) (da_cons (de_call ((D_with_kind T hx).mono (by omega)) T.g_with_kind (da_cons (de_var 1) (da_cons (de_var 3) (da_cons (de_tup (da_cons (de_int) (da_cons (de_bl) (da_nil)))) (da_nil))))) (da_nil))))) (da_nil)))) (dss_nil))) (dss_nil)) (dss_cons (ds_if (dt_cmp od_gt (de_var 9) (de_int)) (dss_cons (ds_expr (de_mt md_app PySem.F.slot_list_append PySem.F.type_list_append (de_var 10) (da_cons (de_tup (da_cons (de_gc T.c_WISHED) (da_cons (de_call ((D_fraction T hx).mono (by omega)) T.g_fraction (da_cons (de_op od_mul (de_var 9) (de_var 11)) (da_cons (de_op od_mul (de_gc T.c_SURE) (de_gc T.c_SURE)) (da_nil)))) (da_cons (de_call ((D_with_kind T hx).mono (by omega)) T.g_with_kind (da_cons (de_var 1) (da_cons (de_var 3) (da_cons (de_gc T.c_FRESH) (da_nil))))) (da_nil))))) (da_nil)))) (dss_nil)) (dss_nil)) (dss_cons (ds_ret (de_fz (de_var 10))) (dss_nil)))))))))
theorem D_standings_of (T : Txt G a) (hx : G.xa = none) : FnD G base 4 a.standings_of 1 F_standings_of := by
  obtain ⟨fd, hf⟩ := T.t_standings_of.fn
  have S : FnScope [("book" : Str), ("found" : Str), ("waiting" : Str), ("standing" : Str), ("index" : Str), ("word" : Str), ("chance" : Str), ("later" : Str)] ([("book" : Str)] : List Str) (defScope (top 34)) := ⟨rfl, rfl, rfl, by decide +kernel, rfl, by decide +kernel, by decide +kernel⟩
  exact fn_d hx hf S (fun _ _ _ _ _ _ us hl => match us, hl with | [_], _ => rfl) fun cdv A outer s H E =>
    dss_cons (ds_par2 1 2 (da_cons (de_dsp1M (de_gc T.c_FIRST) (de_bl)) (da_cons (de_lstM (da_cons (de_gc T.c_FIRST) (da_nil))) (da_nil)))) (dss_cons (ds_while _ (dt_cmp od_ne (de_var 2) (de_lst (da_nil))) (dss_cons (ds_set 3 (de_mt0 md_pop PySem.F.slot_list_pop PySem.F.type_list_pop (de_var 2))) (dss_cons (ds_for (own := [4]) (di_rng1 (da_cons (de_cb ca_len T.n_len PySem.boot_len (da_cons (de_fld (ct_ok T) (de_var 0)) (da_nil))) (da_nil)) T.n_range) (dg_name 4) (dss_cons (ds_for (own := [5, 6, 7]) (di_seq (de_call ((D_moves_of T hx).mono (by omega)) T.g_moves_of (da_cons (de_var 0) (da_cons (de_var 3) (da_cons (de_var 4) (da_nil)))))) (dg_tup (dgs_cons (dg_name 5) (dgs_cons (dg_name 6) (dgs_cons (dg_name 7) (dgs_nil))))) (dss_cons (ds_if (dt_cmp od_notin (de_var 7) (de_var 1)) (dss_cons (ds_put (de_bl) (de_var 1) (de_var 7)) (dss_cons (ds_expr (de_mt md_app PySem.F.slot_list_append PySem.F.type_list_append (de_var 2) (da_cons (de_var 7) (da_nil)))) (dss_nil))) (dss_nil)) (dss_nil))) (dss_nil))) (dss_nil)))) (dss_cons (ds_ret (de_fz (de_var 1))) (dss_nil)))
theorem D_is_standing (T : Txt G a) (hx : G.xa = none) : FnD G base 5 a.is_standing 2 F_is_standing := by
  obtain ⟨fd, hf⟩ := T.t_is_standing.fn
  have S : FnScope [("book" : Str), ("value" : Str)] ([("book" : Str), ("value" : Str)] : List Str) (defScope (top 36)) := ⟨rfl, rfl, rfl, by decide +kernel, rfl, by decide +kernel, by decide +kernel⟩
  exact fn_d hx hf S (fun _ _ _ _ _ _ us hl => match us, hl with | [_, _], _ => rfl) fun cdv A outer s H E =>
    dss_cons (ds_if (dt_w (dw_or (dt_not (dt_val (de_isi "tuple" (de_var 1) T.n_isinstance T.n_tuple PyProof.Rows.boot_tuple))) (dw_or (dt_cmp od_ne (de_cb ca_len T.n_len PySem.boot_len (da_cons (de_var 1) (da_nil))) (de_int)) (dw_or (dt_not (dt_val (de_call ((D_is_pair T hx).mono (by omega)) T.g_is_pair (da_cons (de_ix (de_var 1) (de_int)) (da_nil))))) (dw_or1 (dt_not (dt_val (de_call ((D_is_pair T hx).mono (by omega)) T.g_is_pair (da_cons (de_ix (de_var 1) (de_int)) (da_nil)))))))))) (dss_cons (ds_ret (de_bl)) (dss_nil)) (dss_nil)) (dss_cons (ds_ret (de_cmp od_in (de_var 1) (de_call ((D_standings_of T hx).mono (by omega)) T.g_standings_of (da_cons (de_var 0) (da_nil))))) (dss_nil))
theorem D_check_standing (T : Txt G a) (hx : G.xa = none) : FnD G base 6 a.check_standing 2 F_check_standing := by
  obtain ⟨fd, hf⟩ := T.t_check_standing.fn
  have S : FnScope [("book" : Str), ("value" : Str)] ([("book" : Str), ("value" : Str)] : List Str) (defScope (top 37)) := ⟨rfl, rfl, rfl, by decide +kernel, rfl, by decide +kernel, by decide +kernel⟩
  exact fn_d hx hf S (fun _ _ _ _ _ _ us hl => match us, hl with | [_, _], _ => rfl) fun cdv A outer s H E =>
    dss_cons (ds_if (dt_not (dt_val (de_call ((D_is_standing T hx).mono (by omega)) T.g_is_standing (da_cons (de_var 0) (da_cons (de_var 1) (da_nil)))))) (dss_cons (ds_rz0 (X_BadStanding T)) (dss_nil)) (dss_nil)) (dss_nil)
theorem D_check_by (T : Txt G a) (hx : G.xa = none) : FnD G base 1 a.check_by 1 F_check_by := by
  obtain ⟨fd, hf⟩ := T.t_check_by.fn
  have S : FnScope [("value" : Str)] ([("value" : Str)] : List Str) (defScope (top 39)) := ⟨rfl, rfl, rfl, by decide +kernel, rfl, by decide +kernel, by decide +kernel⟩
  exact fn_d hx hf S (fun _ _ _ _ _ _ us hl => match us, hl with | [_], _ => rfl) fun cdv A outer s H E =>
    dss_cons (ds_if (dt_w (dw_or (dt_not (dt_val (de_isi "str" (de_var 0) T.n_isinstance T.n_str PyProof.Rows.boot_str))) (dw_or1 (dt_cmp od_notin (de_var 0) (de_tup (da_cons (de_gc T.c_DRAWS) (da_cons (de_gc T.c_TICKETS) (da_nil)))))))) (dss_cons (ds_rz0 (X_BadWord T)) (dss_nil)) (dss_nil)) (dss_nil)
theorem D_check_number (T : Txt G a) (hx : G.xa = none) : FnD G base 2 a.check_number 3 F_check_number := by
  obtain ⟨fd, hf⟩ := T.t_check_number.fn
  have S : FnScope [("value" : Str), ("low" : Str), ("high" : Str)] ([("value" : Str), ("low" : Str), ("high" : Str)] : List Str) (defScope (top 38)) := ⟨rfl, rfl, rfl, by decide +kernel, rfl, by decide +kernel, by decide +kernel⟩
  exact fn_d hx hf S (fun _ _ _ _ _ _ us hl => match us, hl with | [_, _, _], _ => rfl) fun cdv A outer s H E =>
    dss_cons (ds_if (dt_not (dt_val (de_call ((D_is_from T hx).mono (by omega)) T.g_is_from (da_cons (de_var 0) (da_cons (de_var 1) (da_cons (de_var 2) (da_nil))))))) (dss_cons (ds_rz0 (X_BadNumber T)) (dss_nil)) (dss_nil)) (dss_nil)
theorem D_indexes (T : Txt G a) (hx : G.xa = none) : FnD G base 1 a.indexes 1 F_indexes := by
  obtain ⟨fd, hf⟩ := T.t_indexes.fn
  have S : FnScope [("book" : Str)] ([("book" : Str)] : List Str) (defScope (top 42)) := ⟨rfl, rfl, rfl, by decide +kernel, rfl, by decide +kernel, by decide +kernel⟩
  exact fn_d hx hf S (fun _ _ _ _ _ _ us hl => match us, hl with | [_], _ => rfl) fun cdv A outer s H E =>
    dss_cons (ds_ret (de_lsR (de_cb ca_len T.n_len PySem.boot_len (da_cons (de_fld (ct_ok T) (de_var 0)) (da_nil))) T.n_list T.n_range)) (dss_nil)
theorem D_cost_of (T : Txt G a) (hx : G.xa = none) : FnD G base 1 a.cost_of 3 F_cost_of := by
  obtain ⟨fd, hf⟩ := T.t_cost_of.fn
  have S : FnScope [("book" : Str), ("index" : Str), ("by" : Str)] ([("book" : Str), ("index" : Str), ("by" : Str)] : List Str) (defScope (top 43)) := ⟨rfl, rfl, rfl, by decide +kernel, rfl, by decide +kernel, by decide +kernel⟩
  exact fn_d hx hf S (fun _ _ _ _ _ _ us hl => match us, hl with | [_, _, _], _ => rfl) fun cdv A outer s H E =>
    dss_cons (ds_ret (de_if (dt_cmp od_eq (de_var 2) (de_gc T.c_DRAWS)) (de_int) (de_ix (de_ix (de_fld (ct_ok T) (de_var 0)) (de_var 1)) (de_int)))) (dss_nil)
theorem D_plus (T : Txt G a) (hx : G.xa = none) : FnD G base 3 a.plus 2 F_plus := by
  obtain ⟨fd, hf⟩ := T.t_plus.fn
  have S : FnScope [("one" : Str), ("other" : Str)] ([("one" : Str), ("other" : Str)] : List Str) (defScope (top 12)) := ⟨rfl, rfl, rfl, by decide +kernel, rfl, by decide +kernel, by decide +kernel⟩
  exact fn_d hx hf S (fun _ _ _ _ _ _ us hl => match us, hl with | [_, _], _ => rfl) fun cdv A outer s H E =>
    dss_cons (ds_ret (de_call ((D_fraction T hx).mono (by omega)) T.g_fraction (da_cons (de_op od_add (de_op od_mul (de_ix (de_var 0) (de_int)) (de_ix (de_var 1) (de_int))) (de_op od_mul (de_ix (de_var 1) (de_int)) (de_ix (de_var 0) (de_int)))) (da_cons (de_op od_mul (de_ix (de_var 0) (de_int)) (de_ix (de_var 1) (de_int))) (da_nil))))) (dss_nil)
theorem D_times (T : Txt G a) (hx : G.xa = none) : FnD G base 3 a.times 2 F_times := by
  obtain ⟨fd, hf⟩ := T.t_times.fn
  have S : FnScope [("one" : Str), ("other" : Str)] ([("one" : Str), ("other" : Str)] : List Str) (defScope (top 13)) := ⟨rfl, rfl, rfl, by decide +kernel, rfl, by decide +kernel, by decide +kernel⟩
  exact fn_d hx hf S (fun _ _ _ _ _ _ us hl => match us, hl with | [_, _], _ => rfl) fun cdv A outer s H E =>
    dss_cons (ds_ret (de_call ((D_fraction T hx).mono (by omega)) T.g_fraction (da_cons (de_op od_mul (de_ix (de_var 0) (de_int)) (de_ix (de_var 1) (de_int))) (da_cons (de_op od_mul (de_ix (de_var 0) (de_int)) (de_ix (de_var 1) (de_int))) (da_nil))))) (dss_nil)
theorem D_is_less (T : Txt G a) (hx : G.xa = none) : FnD G base 1 a.is_less 2 F_is_less := by
  obtain ⟨fd, hf⟩ := T.t_is_less.fn
  have S : FnScope [("one" : Str), ("other" : Str)] ([("one" : Str), ("other" : Str)] : List Str) (defScope (top 14)) := ⟨rfl, rfl, rfl, by decide +kernel, rfl, by decide +kernel, by decide +kernel⟩
  exact fn_d hx hf S (fun _ _ _ _ _ _ us hl => match us, hl with | [_, _], _ => rfl) fun cdv A outer s H E =>
    dss_cons (ds_ret (de_cmp od_lt (de_op od_mul (de_ix (de_var 0) (de_int)) (de_ix (de_var 1) (de_int))) (de_op od_mul (de_ix (de_var 1) (de_int)) (de_ix (de_var 0) (de_int))))) (dss_nil)
theorem D_greatest (T : Txt G a) (hx : G.xa = none) : FnD G base 2 a.greatest 1 F_greatest := by
  obtain ⟨fd, hf⟩ := T.t_greatest.fn
  have S : FnScope [("some" : Str), ("found" : Str), ("one" : Str)] ([("some" : Str)] : List Str) (defScope (top 15)) := ⟨rfl, rfl, rfl, by decide +kernel, rfl, by decide +kernel, by decide +kernel⟩
  exact fn_d hx hf S (fun _ _ _ _ _ _ us hl => match us, hl with | [_], _ => rfl) fun cdv A outer s H E =>
    dss_cons (ds_set 1 (de_ix (de_var 0) (de_int))) (dss_cons (ds_for (own := [2]) (di_seq (de_sl (de_var 0) (do_so (de_int)) (do_no))) (dg_name 2) (dss_cons (ds_set 1 (de_if (dt_val (de_call ((D_is_less T hx).mono (by omega)) T.g_is_less (da_cons (de_var 1) (da_cons (de_var 2) (da_nil))))) (de_var 2) (de_var 1))) (dss_nil))) (dss_cons (ds_ret (de_var 1)) (dss_nil)))
theorem DG_T (T : Txt G a) (hx : G.xa = none) : ∀ k : Nat, FnD G base (k + 4) a.Within_of_box 4 (F_Within_of_box k) ∧ FnD G base (k + 4) a.Within_of 3 (F_Within_of k)
  | 0 => by
    refine ⟨?_, ?_⟩
    · obtain ⟨fd, hf⟩ := T.t_Within_of_box.fn
      have S : FnScope [("self" : Str), ("standing" : Str), ("left" : Str), ("index" : Str), ("rest" : Str), ("found" : Str), ("word" : Str), ("chance" : Str), ("later" : Str)] ([("self" : Str), ("standing" : Str), ("left" : Str), ("index" : Str)] : List Str) (defScope (inClass (top 44) 1)) := ⟨rfl, rfl, rfl, by decide +kernel, rfl, by decide +kernel, by decide +kernel⟩
      exact fn_zero hx hf S (fun _ _ _ _ _ _ us hl => match us, hl with | [_, _, _, _], _ => rfl)
    · obtain ⟨fd, hf⟩ := T.t_Within_of.fn
      have S : FnScope [("self" : Str), ("standing" : Str), ("left" : Str), ("some" : Str), ("index" : Str), ("one" : Str)] ([("self" : Str), ("standing" : Str), ("left" : Str)] : List Str) (defScope (inClass (top 44) 2)) := ⟨rfl, rfl, rfl, by decide +kernel, rfl, by decide +kernel, by decide +kernel⟩
      exact fn_zero hx hf S (fun _ _ _ _ _ _ us hl => match us, hl with | [_, _, _], _ => rfl)
  | k + 1 => by
    have ih := DG_T T hx k
    obtain ⟨ih_D_Within_of_box, ih_D_Within_of⟩ := ih
    have ih_H_Within_of_box : MtOk G base (k + 4) 2 "of_box" 4 (F_Within_of_box k) := ⟨_, _, _, by rw [T.cl]; rfl, T.cls_Within, T.me_Within_of_box, by decide, ih_D_Within_of_box⟩
    have ih_H_Within_of : MtOk G base (k + 4) 2 "of" 3 (F_Within_of k) := ⟨_, _, _, by rw [T.cl]; rfl, T.cls_Within, T.me_Within_of, by decide, ih_D_Within_of⟩
    refine ⟨?_, ?_⟩
    · obtain ⟨fd, hf⟩ := T.t_Within_of_box.fn
      have S : FnScope [("self" : Str), ("standing" : Str), ("left" : Str), ("index" : Str), ("rest" : Str), ("found" : Str), ("word" : Str), ("chance" : Str), ("later" : Str)] ([("self" : Str), ("standing" : Str), ("left" : Str), ("index" : Str)] : List Str) (defScope (inClass (top 44) 1)) := ⟨rfl, rfl, rfl, by decide +kernel, rfl, by decide +kernel, by decide +kernel⟩
      exact fn_d hx hf S (fun _ _ _ _ _ _ us hl => match us, hl with | [_, _, _, _], _ => rfl) fun cdv A outer s H E =>
      dss_cons (ds_set 4 (de_op od_sub (de_var 2) (de_call ((D_cost_of T hx).mono (by omega)) T.g_cost_of (da_cons (de_fld (ct_ok T) (de_var 0)) (da_cons (de_var 3) (da_cons (de_fld (ct_ok T) (de_var 0)) (da_nil))))))) (dss_cons (ds_if (dt_cmp od_lt (de_var 4) (de_int)) (dss_cons (ds_ret (de_non)) (dss_nil)) (dss_nil)) (dss_cons (ds_set 5 (de_gc T.c_ZERO)) (dss_cons (ds_for (own := [6, 7, 8]) (di_seq (de_call ((D_moves_of T hx).mono (by omega)) T.g_moves_of (da_cons (de_fld (ct_ok T) (de_var 0)) (da_cons (de_var 1) (da_cons (de_var 3) (da_nil)))))) (dg_tup (dgs_cons (dg_name 6) (dgs_cons (dg_name 7) (dgs_cons (dg_name 8) (dgs_nil))))) (dss_cons (ds_set 5 (de_call ((D_plus T hx).mono (by omega)) T.g_plus (da_cons (de_var 5) (da_cons (de_call ((D_times T hx).mono (by omega)) T.g_times (da_cons (de_var 7) (da_cons (de_if (dt_cmp od_eq (de_var 6) (de_gc T.c_WISHED)) (de_gc T.c_ONE) (de_meth (ih_H_Within_of.mono (by omega)) (de_var 0) (da_cons (de_var 8) (da_cons (de_var 4) (da_nil))))) (da_nil)))) (da_nil))))) (dss_nil))) (dss_cons (ds_ret (de_var 5)) (dss_nil)))))
    · obtain ⟨fd, hf⟩ := T.t_Within_of.fn
      have S : FnScope [("self" : Str), ("standing" : Str), ("left" : Str), ("some" : Str), ("index" : Str), ("one" : Str)] ([("self" : Str), ("standing" : Str), ("left" : Str)] : List Str) (defScope (inClass (top 44) 2)) := ⟨rfl, rfl, rfl, by decide +kernel, rfl, by decide +kernel, by decide +kernel⟩
      exact fn_d hx hf S (fun _ _ _ _ _ _ us hl => match us, hl with | [_, _, _], _ => rfl) fun cdv A outer s H E =>
      dss_cons (ds_if (dt_cmp od_notin (de_tup (da_cons (de_var 1) (da_cons (de_var 2) (da_nil)))) (de_fld (ct_ok T) (de_var 0))) (dss_cons (ds_setLc 3 [("index", 4)] (di_seq (de_call ((D_indexes T hx).mono (by omega)) T.g_indexes (da_cons (de_fld (ct_ok T) (de_var 0)) (da_nil)))) (blk_mk (by kernel_rfl)) (fun _ _ _ _ _ => dg_name 4) (fun _ _ _ _ _ => dts_nil) (fun _ _ _ _ _ => de_meth (ih_H_Within_of_box.mono (by omega)) (de_var 0) (da_cons (de_var 1) (da_cons (de_var 2) (da_cons (de_var 4) (da_nil))))) (sw_true rfl rfl rfl rfl)) (dss_cons (ds_put (de_call ((D_greatest T hx).mono (by omega)) T.g_greatest (da_cons (de_lst (da_cons (de_gc T.c_ZERO) (da_star (de_lc [("one", 5)] (di_seq (de_var 3)) (blk_mk (by kernel_rfl)) (fun _ _ _ _ _ => dg_name 5) (fun _ _ _ _ _ => dts_one (dt_cmp od_isnot (de_var 5) (de_non))) (fun _ _ _ _ _ => de_var 5)) (da_nil)))) (da_nil))) (de_fld (ct_ok T) (de_var 0)) (de_tup (da_cons (de_var 1) (da_cons (de_var 2) (da_nil))))) (dss_nil))) (dss_nil)) (dss_cons (ds_ret (de_ix (de_fld (ct_ok T) (de_var 0)) (de_tup (da_cons (de_var 1) (da_cons (de_var 2) (da_nil)))))) (dss_nil))
theorem D_Within_of_box (T : Txt G a) (hx : G.xa = none) (k : Nat) : FnD G base (k + 4) a.Within_of_box 4 (F_Within_of_box k) := (DG_T T hx k).1
theorem H_Within_of_box (T : Txt G a) (hx : G.xa = none) (k : Nat) : MtOk G base (k + 4) 2 "of_box" 4 (F_Within_of_box k) := ⟨_, _, _, by rw [T.cl]; rfl, T.cls_Within, T.me_Within_of_box, by decide, D_Within_of_box T hx k⟩
theorem D_Within_of (T : Txt G a) (hx : G.xa = none) (k : Nat) : FnD G base (k + 4) a.Within_of 3 (F_Within_of k) := (DG_T T hx k).2
theorem H_Within_of (T : Txt G a) (hx : G.xa = none) (k : Nat) : MtOk G base (k + 4) 2 "of" 3 (F_Within_of k) := ⟨_, _, _, by rw [T.cl]; rfl, T.cls_Within, T.me_Within_of, by decide, D_Within_of T hx k⟩
theorem D_Within_init (T : Txt G a) (hx : G.xa = none) : FnD G base 1 a.Within_init 3 F_Within_init := by
  obtain ⟨fd, hf⟩ := T.t_Within_init.fn
  have S : FnScope [("self" : Str), ("book" : Str), ("by" : Str)] ([("self" : Str), ("book" : Str), ("by" : Str)] : List Str) (defScope (inClass (top 44) 0)) := ⟨rfl, rfl, rfl, by decide +kernel, rfl, by decide +kernel, by decide +kernel⟩
  exact fn_d hx hf S (fun _ _ _ _ _ _ us hl => match us, hl with | [_, _, _], _ => rfl) fun cdv A outer s H E =>
    dss_cons (ds_fst (ct_ok T) ct_small (de_var 1) (de_var 0)) (dss_cons (ds_fst (ct_ok T) ct_small (de_var 2) (de_var 0)) (dss_cons (ds_fst (ct_ok T) ct_small (de_dicM) (de_var 0)) (dss_nil)))
theorem M_Within_2 (T : Txt G a) (hx : G.xa = none) : MkOk G base 1 2 3 F_Within_init [] "Within" := by
  obtain ⟨fd, ps, h1, h2, h3, h4⟩ := (D_Within_init (base := base) T hx).ex
  exact ⟨⟨_, _, _, fd, ps, [], [], by rw [T.cl]; rfl, T.g_Within, T.mk_Within, h1, h2, h4, .nil, fun _ _ => rfl⟩, (D_Within_init (base := base) T hx).ln⟩
theorem D_chance (T : Txt G a) (hx : G.xa = none) : FnD G base 65 a.chance 4 F_chance := by
  obtain ⟨fd, hf⟩ := T.t_chance.fn
  have S : FnScope [("book" : Str), ("standing" : Str), ("by" : Str), ("n" : Str)] ([("book" : Str), ("standing" : Str), ("by" : Str), ("n" : Str)] : List Str) (defScope (top 45)) := ⟨rfl, rfl, rfl, by decide +kernel, rfl, by decide +kernel, by decide +kernel⟩
  exact fn_d hx hf S (fun _ _ _ _ _ _ us hl => match us, hl with | [_, _, _, _], _ => rfl) fun cdv A outer s H E =>
    dss_cons (ds_expr (de_call ((D_check_standing T hx).mono (by omega)) T.g_check_standing (da_cons (de_var 0) (da_cons (de_var 1) (da_nil))))) (dss_cons (ds_expr (de_call ((D_check_by T hx).mono (by omega)) T.g_check_by (da_cons (de_var 2) (da_nil)))) (dss_cons (ds_expr (de_call ((D_check_number T hx).mono (by omega)) T.g_check_number (da_cons (de_var 3) (da_cons (de_int) (da_cons (de_gc T.c_MOST_WITHIN) (da_nil)))))) (dss_cons (ds_ret (de_meth ((H_Within_of T hx 60).mono (by omega)) (de_mkF (ct_ok T) (M_Within_2 T hx) (by omega) (da_cons (de_var 0) (da_cons (de_var 2) (da_nil)))) (da_cons (de_var 1) (da_cons (de_var 3) (da_nil))))) (dss_nil))))
def F__law_refused : FF := fnB 6 4 (sSeq (sAsg (eC .non) (gNm 4)) (sSeq (sTry 4 5 [8, 9, 10] (sSeq (sAsg (eCall F_chance (aCons (eVar 0) (aCons (eVar 1) (aCons (eVar 2) (aCons (eVar 3) (aNil)))))) (gNm 4)) (sNil)) [([8], (fun _ => some (.str "standing"))), ([10], (fun _ => some (.str "word"))), ([9], (fun _ => some (.str "number")))]) (sSeq (sRet (eVar 4)) (sNil))))
theorem D__law_refused (T : Txt G a) (hx : G.xa = none) : FnD G base 66 a._law_refused 4 F__law_refused := by
  obtain ⟨fd, hf⟩ := T.t__law_refused.fn
  have S : FnScope [("_law_book" : Str), ("_law_standing" : Str), ("_law_by" : Str), ("_law_n" : Str), ("_law_told_there" : Str), ("e" : Str)] ([("_law_book" : Str), ("_law_standing" : Str), ("_law_by" : Str), ("_law_n" : Str)] : List Str) (defScope (top 63)) := ⟨rfl, rfl, rfl, by decide +kernel, rfl, by decide +kernel, by decide +kernel⟩
  exact fn_d hx hf S (fun _ _ _ _ _ _ us hl => match us, hl with | [_, _, _, _], _ => rfl) fun cdv A outer s H E =>
    dss_cons (ds_set 4 (de_non)) (dss_cons (ds_try (ie := 5) (it := 4) (n := "e") (cp := a.PrizeError) (all := [8, 9, 10]) (l := [([8], (fun _ => some (.str "standing"))), ([10], (fun _ => some (.str "word"))), ([9], (fun _ => some (.str "number")))]) (fun W1 pn1 xe1 => dss_cons (ds_set 4 (de_call ((D_chance T hx).mono (by omega)) T.g_chance (da_cons (de_var 0) (da_cons (de_var 1) (da_cons (de_var 2) (da_cons (de_var 3) (da_nil))))))) (dss_nil)) (.cons (tk_BadStanding_8_9_10 T) rfl (by decide) (fun aa oe cls d pn hz hf => px_suite (pe3 := ⟨0, 0, 0, 0⟩) hz hf rfl rfl S.nd (fun c h => by
      obtain ⟨h, _⟩ := h
      simp only [List.mem_cons, List.not_mem_nil, or_false] at h
      rcases h with rfl
      · exact xc_BadStanding T) T.g_PrizeError T.n_isinstance (px_str) rfl (by first | exact Or.inl rfl | exact Or.inr (Or.inl rfl) | exact Or.inr (Or.inr rfl)) rfl (by first | exact Or.inl rfl | exact Or.inr rfl) rfl rfl (by first | exact Or.inl rfl | exact Or.inr rfl)) (.cons (tk_BadWord_8_9_10 T) rfl (by decide) (fun aa oe cls d pn hz hf => px_suite (pe3 := ⟨0, 0, 0, 0⟩) hz hf rfl rfl S.nd (fun c h => by
      obtain ⟨h, _⟩ := h
      simp only [List.mem_cons, List.not_mem_nil, or_false] at h
      rcases h with rfl
      · exact xc_BadWord T) T.g_PrizeError T.n_isinstance (px_str) rfl (by first | exact Or.inl rfl | exact Or.inr (Or.inl rfl) | exact Or.inr (Or.inr rfl)) rfl (by first | exact Or.inl rfl | exact Or.inr rfl) rfl rfl (by first | exact Or.inl rfl | exact Or.inr rfl)) (.cons (tk_BadNumber_8_9_10 T) rfl (by decide) (fun aa oe cls d pn hz hf => px_suite (pe3 := ⟨0, 0, 0, 0⟩) hz hf rfl rfl S.nd (fun c h => by
      obtain ⟨h, _⟩ := h
      simp only [List.mem_cons, List.not_mem_nil, or_false] at h
      rcases h with rfl
      · exact xc_BadNumber T) T.g_PrizeError T.n_isinstance (px_str) rfl (by first | exact Or.inl rfl | exact Or.inr (Or.inl rfl) | exact Or.inr (Or.inr rfl)) rfl (by first | exact Or.inl rfl | exact Or.inr rfl) rfl rfl (by first | exact Or.inl rfl | exact Or.inr rfl)) .nil)))) (dss_cons (ds_ret (de_var 4)) (dss_nil)))
def L_law_1 : SF := sFor (iSq (eLst (aCons (eVar 7) (aCons (eCall F__law_pick (aCons (eVar 1) (aCons (eB addD (eVar 7) (eC (.int 1))) (aNil)))) (aNil))))) (gNm 9) (sSeq (sIf (tVal (eB (eqD true) (eCall F_chance (aCons (eVar 4) (aCons (eVar 5) (aCons (eVar 6) (aCons (eVar 9) (aNil)))))) (eB ixD (eB ixD (eVar 8) (eVar 9)) (eVar 5)))) (sSeq (sRet (eC (.bl false))) (sNil)) (sNil)) (sNil))
def L_law_2 : SF := sFor (iRn1 (aCons (eC (.int 2)) (aNil))) (gNm 2) (sSeq (sAsg (eCall F__law_drawn (aCons (eVar 1) (aCons (eC (.int 3)) (aCons (eC (.int 4)) (aNil))))) (gNm 3)) (sSeq (sPar [4, 5, 6] (aCons (eCall F__law_made (aCons (eVar 3) (aNil))) (aCons (eCall F__law_stand (aCons (eVar 1) (aCons (eVar 3) (aNil)))) (aCons (eB ixD (eLst (aCons (eC (.str "draws")) (aCons (eC (.str "tickets")) (aNil)))) (eCall F__law_pick (aCons (eVar 1) (aCons (eC (.int 2)) (aNil))))) (aNil))))) (sSeq (sAsg (eB ixD (eLst (aCons (eCall F__law_pick (aCons (eVar 1) (aCons (eC (.int 13)) (aNil)))) (aCons (eC (.int 20)) (aNil)))) (eCall intD (aCons (eB (eqD false) (eCall F__law_pick (aCons (eVar 1) (aCons (eC (.int 8)) (aNil)))) (eC (.int 0))) (aNil)))) (gNm 7)) (sSeq (sAsg (eCall F__law_within (aCons (eVar 3) (aCons (eVar 5) (aCons (eVar 6) (aCons (eVar 7) (aNil)))))) (gNm 8)) (sSeq (L_law_1) (sSeq (sAsg (eB ixD (eLst (aCons (eC (.int (-1))) (aCons (eC (.int 21)) (aCons (eC (.bl true)) (aCons (eC .non) (aCons (eC (.str "1")) (aCons (eTup (aCons (eC (.int 1)) (aNil))) (aNil)))))))) (eCall F__law_pick (aCons (eVar 1) (aCons (eC (.int 6)) (aNil))))) (gNm 10)) (sSeq (sIf (tOrD (tVal (eB (eqD true) (eCall F__law_refused (aCons (eVar 4) (aCons (eVar 5) (aCons (eVar 6) (aCons (eVar 10) (aNil)))))) (eC (.str "number")))) (tVal (eB (eqD true) (eCall F__law_refused (aCons (eVar 4) (aCons (eVar 5) (aCons (eC (.str "by")) (aCons (eVar 10) (aNil)))))) (eC (.str "word"))))) (sSeq (sRet (eC (.bl false))) (sNil)) (sNil)) (sSeq (sIf (tVal (eB (eqD true) (eCall F__law_refused (aCons (eVar 4) (aCons (eC .non) (aCons (eC (.str "by")) (aCons (eVar 10) (aNil)))))) (eC (.str "standing")))) (sSeq (sRet (eC (.bl false))) (sNil)) (sNil)) (sNil)))))))))
def F_law : FF := fnB 11 1 (sSeq (sAsg (eCall F__law_draws (aCons (eVar 0) (aNil))) (gNm 1)) (sSeq (L_law_2) (sSeq (sRet (eC (.bl true))) (sNil))))
theorem dlaw (T : Txt G a) (hx : G.xa = none) {fd : FuncData} (hf : Fun G.K "law" "law" (top 64) a.law fd) : FnOk G.P G.w G.K G.mg base (L2.CX G.P G.w) 67 a.law fd ["_law_script"] (spD G 1 F_law) := by
  have S : FnScope [("_law_script" : Str), ("_law_row" : Str), ("_law_turn" : Str), ("_law_d" : Str), ("_law_book" : Str), ("_law_standing" : Str), ("_law_by" : Str), ("_law_most_here" : Str), ("_law_rows" : Str), ("_law_n" : Str), ("_law_wrong" : Str)] ([("_law_script" : Str)] : List Str) (defScope (top 64)) := ⟨rfl, rfl, rfl, by decide +kernel, rfl, by decide +kernel, by decide +kernel⟩
  exact fn_run hx hf S fun cdv A outer s H E =>
    dss_cons (ds_set 1 (de_call ((D__law_draws T hx).mono (by omega)) T.g__law_draws (da_cons (de_var 0) (da_nil)))) (dss_cons (ds_for (own := [2]) (di_rng1 (da_cons (de_int) (da_nil)) T.n_range) (dg_name 2) (dss_cons (ds_set 3 (de_call ((D__law_drawn T hx).mono (by omega)) T.g__law_drawn (da_cons (de_var 1) (da_cons (de_int) (da_cons (de_int) (da_nil)))))) (dss_cons (ds_par3 4 5 6 (da_cons (de_call ((D__law_made T hx).mono (by omega)) T.g__law_made (da_cons (de_var 3) (da_nil))) (da_cons (de_call ((D__law_stand T hx).mono (by omega)) T.g__law_stand (da_cons (de_var 1) (da_cons (de_var 3) (da_nil)))) (da_cons (de_ix (de_lst (da_cons (de_str) (da_cons (de_str) (da_nil)))) (de_call ((D__law_pick T hx).mono (by omega)) T.g__law_pick (da_cons (de_var 1) (da_cons (de_int) (da_nil))))) (da_nil))))) (dss_cons (ds_set 7 (de_ix (de_lst (da_cons (de_call ((D__law_pick T hx).mono (by omega)) T.g__law_pick (da_cons (de_var 1) (da_cons (de_int) (da_nil)))) (da_cons (de_int) (da_nil)))) (de_ct ca_int T.n_int PyProof.Rows.boot_int (da_cons (de_cmp od_eq (de_call ((D__law_pick T hx).mono (by omega)) T.g__law_pick (da_cons (de_var 1) (da_cons (de_int) (da_nil)))) (de_int)) (da_nil))))) (dss_cons (ds_set 8 (de_call ((D__law_within T hx).mono (by omega)) T.g__law_within (da_cons (de_var 3) (da_cons (de_var 5) (da_cons (de_var 6) (da_cons (de_var 7) (da_nil))))))) (dss_cons (ds_for (own := [9]) (di_seq (de_lst (da_cons (de_var 7) (da_cons (de_call ((D__law_pick T hx).mono (by omega)) T.g__law_pick (da_cons (de_var 1) (da_cons (de_op od_add (de_var 7) (de_int)) (da_nil)))) (da_nil))))) (dg_name 9) (dss_cons (ds_if (dt_cmp od_ne (de_call ((D_chance T hx).mono (by omega)) T.g_chance (da_cons (de_var 4) (da_cons (de_var 5) (da_cons (de_var 6) (da_cons (de_var 9) (da_nil)))))) (de_ix (de_ix (de_var 8) (de_var 9)) (de_var 5))) (dss_cons (ds_ret (de_bl)) (dss_nil)) (dss_nil)) (dss_nil))) (dss_cons (ds_set 10 (de_ix (de_lst (da_cons (de_neg) (da_cons (de_int) (da_cons (de_bl) (da_cons (de_non) (da_cons (de_str) (da_cons (de_tup (da_cons (de_int) (da_nil))) (da_nil)))))))) (de_call ((D__law_pick T hx).mono (by omega)) T.g__law_pick (da_cons (de_var 1) (da_cons (de_int) (da_nil)))))) (dss_cons (ds_if (dt_w (dw_or (dt_cmp od_ne (de_call ((D__law_refused T hx).mono (by omega)) T.g__law_refused (da_cons (de_var 4) (da_cons (de_var 5) (da_cons (de_var 6) (da_cons (de_var 10) (da_nil)))))) (de_str)) (dw_or1 (dt_cmp od_ne (de_call ((D__law_refused T hx).mono (by omega)) T.g__law_refused (da_cons (de_var 4) (da_cons (de_var 5) (da_cons (de_str) (da_cons (de_var 10) (da_nil)))))) (de_str))))) (dss_cons (ds_ret (de_bl)) (dss_nil)) (dss_nil)) (dss_cons (ds_if (dt_cmp od_ne (de_call ((D__law_refused T hx).mono (by omega)) T.g__law_refused (da_cons (de_var 4) (da_cons (de_non) (da_cons (de_str) (da_cons (de_var 10) (da_nil)))))) (de_str)) (dss_cons (ds_ret (de_bl)) (dss_nil)) (dss_nil)) (dss_nil)))))))))) (dss_cons (ds_ret (de_bl)) (dss_nil)))
end
theorem all_mk {P : Program} {w : World} {K : PySem.W.Frag} {h : Heap} {mg : Str → Option Value} {fa x_U_FIRST_0 x_U_FIRST_1 x_U_FIRST x_U_FRESH x_U_ONE x_U_ZERO x__law_draws x__law_pick x__law_box x__law_drawn x__law_fraction x__law_moves x__law_all x__law_first x__law_stand x_is_from x_are_chances x_is_box x_are_kept x__law_made x__law_cost x__law_plus x__law_times x__law_less x__law_most x__law_within x_is_pair x_with_kind x_divisor x_fraction x_moves_of x_standings_of x_is_standing x_check_standing x_check_by x_check_number x_indexes x_cost_of x_plus x_times x_is_less x_greatest x_chance x__law_refused x_law x_Book x_Book_init x_T_Book_init x_E_Book_init x_Within x_Within_init x_Within_of_box x_Within_of x_PrizeError x_BadKept x_BadStanding x_BadNumber x_BadWord x_BadBox x_BadBox_init : Addr} (X : K.In h) (Gn : h.Ns mainGlobals mg) (hfa : mg "law" = some (.ref fa))
    {t_DRAWS : Nat} {t_FIRST_0_0 : Nat} {od_U_FIRST_0 : Option Addr} {sl_U_FIRST_0 : Array (Option Value)} {n_U_FIRST_0 : Nat} {t_FIRST_1_0 : Nat} {od_U_FIRST_1 : Option Addr} {sl_U_FIRST_1 : Array (Option Value)} {n_U_FIRST_1 : Nat} {od_U_FIRST : Option Addr} {sl_U_FIRST : Array (Option Value)} {n_U_FIRST : Nat} {t_FRESH_0 : Nat} {od_U_FRESH : Option Addr} {sl_U_FRESH : Array (Option Value)} {n_U_FRESH : Nat} {t_MISS : Nat} {t_MOST_BOXES : Nat} {t_MOST_CHANCES : Nat} {t_MOST_WITHIN : Nat} {t_ONE_0 : Nat} {t_ONE_1 : Nat} {od_U_ONE : Option Addr} {sl_U_ONE : Array (Option Value)} {n_U_ONE : Nat} {t_OTHER : Nat} {t_SURE : Nat} {t_TICKETS : Nat} {t_WISHED : Nat} {t_ZERO_0 : Nat} {t_ZERO_1 : Nat} {od_U_ZERO : Option Addr} {sl_U_ZERO : Array (Option Value)} {n_U_ZERO : Nat} {oc__law_draws : Value} {kV__law_draws : Value} {dc__law_draws : Value} {pm__law_draws : Value} {cd__law_draws : Value} {ct__law_draws : Value} {od__law_draws : Option Addr} {an__law_draws : Option Addr} {sl__law_draws : Array (Option Value)} {oc__law_pick : Value} {kV__law_pick : Value} {dc__law_pick : Value} {pm__law_pick : Value} {cd__law_pick : Value} {ct__law_pick : Value} {od__law_pick : Option Addr} {an__law_pick : Option Addr} {sl__law_pick : Array (Option Value)} {oc__law_box : Value} {kV__law_box : Value} {dc__law_box : Value} {pm__law_box : Value} {cd__law_box : Value} {ct__law_box : Value} {od__law_box : Option Addr} {an__law_box : Option Addr} {sl__law_box : Array (Option Value)} {oc__law_drawn : Value} {kV__law_drawn : Value} {dc__law_drawn : Value} {pm__law_drawn : Value} {cd__law_drawn : Value} {ct__law_drawn : Value} {od__law_drawn : Option Addr} {an__law_drawn : Option Addr} {sl__law_drawn : Array (Option Value)} {oc__law_fraction : Value} {kV__law_fraction : Value} {dc__law_fraction : Value} {pm__law_fraction : Value} {cd__law_fraction : Value} {ct__law_fraction : Value} {od__law_fraction : Option Addr} {an__law_fraction : Option Addr} {sl__law_fraction : Array (Option Value)} {oc__law_moves : Value} {kV__law_moves : Value} {dc__law_moves : Value} {pm__law_moves : Value} {cd__law_moves : Value} {ct__law_moves : Value} {od__law_moves : Option Addr} {an__law_moves : Option Addr} {sl__law_moves : Array (Option Value)} {oc__law_all : Value} {kV__law_all : Value} {dc__law_all : Value} {pm__law_all : Value} {cd__law_all : Value} {ct__law_all : Value} {od__law_all : Option Addr} {an__law_all : Option Addr} {sl__law_all : Array (Option Value)} {oc__law_first : Value} {kV__law_first : Value} {dc__law_first : Value} {pm__law_first : Value} {cd__law_first : Value} {ct__law_first : Value} {od__law_first : Option Addr} {an__law_first : Option Addr} {sl__law_first : Array (Option Value)} {oc__law_stand : Value} {kV__law_stand : Value} {dc__law_stand : Value} {pm__law_stand : Value} {cd__law_stand : Value} {ct__law_stand : Value} {od__law_stand : Option Addr} {an__law_stand : Option Addr} {sl__law_stand : Array (Option Value)} {oc_is_from : Value} {kV_is_from : Value} {dc_is_from : Value} {pm_is_from : Value} {cd_is_from : Value} {ct_is_from : Value} {od_is_from : Option Addr} {an_is_from : Option Addr} {sl_is_from : Array (Option Value)} {oc_are_chances : Value} {kV_are_chances : Value} {dc_are_chances : Value} {pm_are_chances : Value} {cd_are_chances : Value} {ct_are_chances : Value} {od_are_chances : Option Addr} {an_are_chances : Option Addr} {sl_are_chances : Array (Option Value)} {oc_is_box : Value} {kV_is_box : Value} {dc_is_box : Value} {pm_is_box : Value} {cd_is_box : Value} {ct_is_box : Value} {od_is_box : Option Addr} {an_is_box : Option Addr} {sl_is_box : Array (Option Value)} {oc_are_kept : Value} {kV_are_kept : Value} {dc_are_kept : Value} {pm_are_kept : Value} {cd_are_kept : Value} {ct_are_kept : Value} {od_are_kept : Option Addr} {an_are_kept : Option Addr} {sl_are_kept : Array (Option Value)} {oc__law_made : Value} {kV__law_made : Value} {dc__law_made : Value} {pm__law_made : Value} {cd__law_made : Value} {ct__law_made : Value} {od__law_made : Option Addr} {an__law_made : Option Addr} {sl__law_made : Array (Option Value)} {oc__law_cost : Value} {kV__law_cost : Value} {dc__law_cost : Value} {pm__law_cost : Value} {cd__law_cost : Value} {ct__law_cost : Value} {od__law_cost : Option Addr} {an__law_cost : Option Addr} {sl__law_cost : Array (Option Value)} {oc__law_plus : Value} {kV__law_plus : Value} {dc__law_plus : Value} {pm__law_plus : Value} {cd__law_plus : Value} {ct__law_plus : Value} {od__law_plus : Option Addr} {an__law_plus : Option Addr} {sl__law_plus : Array (Option Value)} {oc__law_times : Value} {kV__law_times : Value} {dc__law_times : Value} {pm__law_times : Value} {cd__law_times : Value} {ct__law_times : Value} {od__law_times : Option Addr} {an__law_times : Option Addr} {sl__law_times : Array (Option Value)} {oc__law_less : Value} {kV__law_less : Value} {dc__law_less : Value} {pm__law_less : Value} {cd__law_less : Value} {ct__law_less : Value} {od__law_less : Option Addr} {an__law_less : Option Addr} {sl__law_less : Array (Option Value)} {oc__law_most : Value} {kV__law_most : Value} {dc__law_most : Value} {pm__law_most : Value} {cd__law_most : Value} {ct__law_most : Value} {od__law_most : Option Addr} {an__law_most : Option Addr} {sl__law_most : Array (Option Value)} {oc__law_within : Value} {kV__law_within : Value} {dc__law_within : Value} {pm__law_within : Value} {cd__law_within : Value} {ct__law_within : Value} {od__law_within : Option Addr} {an__law_within : Option Addr} {sl__law_within : Array (Option Value)} {oc_is_pair : Value} {kV_is_pair : Value} {dc_is_pair : Value} {pm_is_pair : Value} {cd_is_pair : Value} {ct_is_pair : Value} {od_is_pair : Option Addr} {an_is_pair : Option Addr} {sl_is_pair : Array (Option Value)} {oc_with_kind : Value} {kV_with_kind : Value} {dc_with_kind : Value} {pm_with_kind : Value} {cd_with_kind : Value} {ct_with_kind : Value} {od_with_kind : Option Addr} {an_with_kind : Option Addr} {sl_with_kind : Array (Option Value)} {oc_divisor : Value} {kV_divisor : Value} {dc_divisor : Value} {pm_divisor : Value} {cd_divisor : Value} {ct_divisor : Value} {od_divisor : Option Addr} {an_divisor : Option Addr} {sl_divisor : Array (Option Value)} {oc_fraction : Value} {kV_fraction : Value} {dc_fraction : Value} {pm_fraction : Value} {cd_fraction : Value} {ct_fraction : Value} {od_fraction : Option Addr} {an_fraction : Option Addr} {sl_fraction : Array (Option Value)} {oc_moves_of : Value} {kV_moves_of : Value} {dc_moves_of : Value} {pm_moves_of : Value} {cd_moves_of : Value} {ct_moves_of : Value} {od_moves_of : Option Addr} {an_moves_of : Option Addr} {sl_moves_of : Array (Option Value)} {oc_standings_of : Value} {kV_standings_of : Value} {dc_standings_of : Value} {pm_standings_of : Value} {cd_standings_of : Value} {ct_standings_of : Value} {od_standings_of : Option Addr} {an_standings_of : Option Addr} {sl_standings_of : Array (Option Value)} {oc_is_standing : Value} {kV_is_standing : Value} {dc_is_standing : Value} {pm_is_standing : Value} {cd_is_standing : Value} {ct_is_standing : Value} {od_is_standing : Option Addr} {an_is_standing : Option Addr} {sl_is_standing : Array (Option Value)} {oc_check_standing : Value} {kV_check_standing : Value} {dc_check_standing : Value} {pm_check_standing : Value} {cd_check_standing : Value} {ct_check_standing : Value} {od_check_standing : Option Addr} {an_check_standing : Option Addr} {sl_check_standing : Array (Option Value)} {oc_check_by : Value} {kV_check_by : Value} {dc_check_by : Value} {pm_check_by : Value} {cd_check_by : Value} {ct_check_by : Value} {od_check_by : Option Addr} {an_check_by : Option Addr} {sl_check_by : Array (Option Value)} {oc_check_number : Value} {kV_check_number : Value} {dc_check_number : Value} {pm_check_number : Value} {cd_check_number : Value} {ct_check_number : Value} {od_check_number : Option Addr} {an_check_number : Option Addr} {sl_check_number : Array (Option Value)} {oc_indexes : Value} {kV_indexes : Value} {dc_indexes : Value} {pm_indexes : Value} {cd_indexes : Value} {ct_indexes : Value} {od_indexes : Option Addr} {an_indexes : Option Addr} {sl_indexes : Array (Option Value)} {oc_cost_of : Value} {kV_cost_of : Value} {dc_cost_of : Value} {pm_cost_of : Value} {cd_cost_of : Value} {ct_cost_of : Value} {od_cost_of : Option Addr} {an_cost_of : Option Addr} {sl_cost_of : Array (Option Value)} {oc_plus : Value} {kV_plus : Value} {dc_plus : Value} {pm_plus : Value} {cd_plus : Value} {ct_plus : Value} {od_plus : Option Addr} {an_plus : Option Addr} {sl_plus : Array (Option Value)} {oc_times : Value} {kV_times : Value} {dc_times : Value} {pm_times : Value} {cd_times : Value} {ct_times : Value} {od_times : Option Addr} {an_times : Option Addr} {sl_times : Array (Option Value)} {oc_is_less : Value} {kV_is_less : Value} {dc_is_less : Value} {pm_is_less : Value} {cd_is_less : Value} {ct_is_less : Value} {od_is_less : Option Addr} {an_is_less : Option Addr} {sl_is_less : Array (Option Value)} {oc_greatest : Value} {kV_greatest : Value} {dc_greatest : Value} {pm_greatest : Value} {cd_greatest : Value} {ct_greatest : Value} {od_greatest : Option Addr} {an_greatest : Option Addr} {sl_greatest : Array (Option Value)} {oc_chance : Value} {kV_chance : Value} {dc_chance : Value} {pm_chance : Value} {cd_chance : Value} {ct_chance : Value} {od_chance : Option Addr} {an_chance : Option Addr} {sl_chance : Array (Option Value)} {oc__law_refused : Value} {kV__law_refused : Value} {dc__law_refused : Value} {pm__law_refused : Value} {cd__law_refused : Value} {ct__law_refused : Value} {od__law_refused : Option Addr} {an__law_refused : Option Addr} {sl__law_refused : Array (Option Value)} {oc_law : Value} {kV_law : Value} {dc_law : Value} {pm_law : Value} {cd_law : Value} {ct_law : Value} {od_law : Option Addr} {an_law : Option Addr} {sl_law : Array (Option Value)} {oc_Book_init : Value} {kV_Book_init : Value} {dc_Book_init : Value} {pm_Book_init : Value} {cd_Book_init : Value} {ct_Book_init : Value} {od_Book_init : Option Addr} {an_Book_init : Option Addr} {sl_Book_init : Array (Option Value)} {ocT_Book_init : Value} {odT_Book_init : Option Addr} {odE_Book_init : Option Addr} {slT_Book_init : Array (Option Value)} {slE_Book_init : Array (Option Value)} {nT_Book_init : Nat} {nE_Book_init : Nat} {oc_Within_init : Value} {kV_Within_init : Value} {dc_Within_init : Value} {pm_Within_init : Value} {cd_Within_init : Value} {ct_Within_init : Value} {od_Within_init : Option Addr} {an_Within_init : Option Addr} {sl_Within_init : Array (Option Value)} {oc_Within_of_box : Value} {kV_Within_of_box : Value} {dc_Within_of_box : Value} {pm_Within_of_box : Value} {cd_Within_of_box : Value} {ct_Within_of_box : Value} {od_Within_of_box : Option Addr} {an_Within_of_box : Option Addr} {sl_Within_of_box : Array (Option Value)} {oc_Within_of : Value} {kV_Within_of : Value} {dc_Within_of : Value} {pm_Within_of : Value} {cd_Within_of : Value} {ct_Within_of : Value} {od_Within_of : Option Addr} {an_Within_of : Option Addr} {sl_Within_of : Array (Option Value)} {nm_BadBox : Str} {q_BadBox : Str} {N_BadBox : Addr} {bs_BadBox : List Value} {sn_BadBox : List Str} {sub_BadBox : List Value} {ab_BadBox : Bool} {col_BadBox : Option Bool} {dd_BadBox : Option Addr} {m0_BadBox : Option Value} {m1_BadBox : Option Value} {m2_BadBox : Option Value} {m3_BadBox : Option Value} {m5_BadBox : Option Value} {oc_BadBox_init : Value} {kV_BadBox_init : Value} {dc_BadBox_init : Value} {pm_BadBox_init : Value} {cd_BadBox_init : Value} {ct_BadBox_init : Value} {od_BadBox_init : Option Addr} {an_BadBox_init : Option Addr} {sl_BadBox_init : Array (Option Value)}
    (z_DRAWS : PySem.W.nsIn K mainGlobals "DRAWS" = some (some (.str "draws" t_DRAWS)))
    (lU_FIRST_0 : K.lookup x_U_FIRST_0 = some ⟨.type "tuple", od_U_FIRST_0, .seq #[.int 0 t_FIRST_0_0, .bool false] n_U_FIRST_0, sl_U_FIRST_0⟩)
    (lU_FIRST_1 : K.lookup x_U_FIRST_1 = some ⟨.type "tuple", od_U_FIRST_1, .seq #[.int 0 t_FIRST_1_0, .bool false] n_U_FIRST_1, sl_U_FIRST_1⟩)
    (lU_FIRST : K.lookup x_U_FIRST = some ⟨.type "tuple", od_U_FIRST, .seq #[.ref x_U_FIRST_0, .ref x_U_FIRST_1] n_U_FIRST, sl_U_FIRST⟩)
    (z_FIRST : PySem.W.nsIn K mainGlobals "FIRST" = some (some (.ref x_U_FIRST)))
    (lU_FRESH : K.lookup x_U_FRESH = some ⟨.type "tuple", od_U_FRESH, .seq #[.int 0 t_FRESH_0, .bool false] n_U_FRESH, sl_U_FRESH⟩)
    (z_FRESH : PySem.W.nsIn K mainGlobals "FRESH" = some (some (.ref x_U_FRESH)))
    (z_MISS : PySem.W.nsIn K mainGlobals "MISS" = some (some (.str "miss" t_MISS)))
    (z_MOST_BOXES : PySem.W.nsIn K mainGlobals "MOST_BOXES" = some (some (.int 3 t_MOST_BOXES)))
    (z_MOST_CHANCES : PySem.W.nsIn K mainGlobals "MOST_CHANCES" = some (some (.int 5 t_MOST_CHANCES)))
    (z_MOST_WITHIN : PySem.W.nsIn K mainGlobals "MOST_WITHIN" = some (some (.int 20 t_MOST_WITHIN)))
    (lU_ONE : K.lookup x_U_ONE = some ⟨.type "tuple", od_U_ONE, .seq #[.int 1 t_ONE_0, .int 1 t_ONE_1] n_U_ONE, sl_U_ONE⟩)
    (z_ONE : PySem.W.nsIn K mainGlobals "ONE" = some (some (.ref x_U_ONE)))
    (z_OTHER : PySem.W.nsIn K mainGlobals "OTHER" = some (some (.str "other" t_OTHER)))
    (z_SURE : PySem.W.nsIn K mainGlobals "SURE" = some (some (.int 100 t_SURE)))
    (z_TICKETS : PySem.W.nsIn K mainGlobals "TICKETS" = some (some (.str "tickets" t_TICKETS)))
    (z_WISHED : PySem.W.nsIn K mainGlobals "WISHED" = some (some (.str "wished" t_WISHED)))
    (lU_ZERO : K.lookup x_U_ZERO = some ⟨.type "tuple", od_U_ZERO, .seq #[.int 0 t_ZERO_0, .int 1 t_ZERO_1] n_U_ZERO, sl_U_ZERO⟩)
    (z_ZERO : PySem.W.nsIn K mainGlobals "ZERO" = some (some (.ref x_U_ZERO)))
    (z_all : PySem.W.nsIn K mainGlobals "all" = some none)
    (z_bool : PySem.W.nsIn K mainGlobals "bool" = some none)
    (z_enumerate : PySem.W.nsIn K mainGlobals "enumerate" = some none)
    (z_int : PySem.W.nsIn K mainGlobals "int" = some none)
    (z_isinstance : PySem.W.nsIn K mainGlobals "isinstance" = some none)
    (z_len : PySem.W.nsIn K mainGlobals "len" = some none)
    (z_list : PySem.W.nsIn K mainGlobals "list" = some none)
    (z_min : PySem.W.nsIn K mainGlobals "min" = some none)
    (z_range : PySem.W.nsIn K mainGlobals "range" = some none)
    (z_set : PySem.W.nsIn K mainGlobals "set" = some none)
    (z_sorted : PySem.W.nsIn K mainGlobals "sorted" = some none)
    (z_str : PySem.W.nsIn K mainGlobals "str" = some none)
    (z_tuple : PySem.W.nsIn K mainGlobals "tuple" = some none)
    (a__law_draws : PySem.W.nsIn K mainGlobals "_law_draws" = some (some (.ref x__law_draws)))
    (l__law_draws : K.lookup x__law_draws = some ⟨oc__law_draws, od__law_draws, .func (PySem.W.fnOf "_law_draws" "_law_draws" (defArgs (top 47)) (defBody (top 47)) (defScope (top 47)) .none kV__law_draws dc__law_draws pm__law_draws an__law_draws cd__law_draws ct__law_draws), sl__law_draws⟩)
    (co__law_draws : PySem.W.codeIn K cd__law_draws "_law_draws" = true)
    (k__law_draws : PySem.W.keepIn K (.ref x__law_draws) = true)
    (a__law_pick : PySem.W.nsIn K mainGlobals "_law_pick" = some (some (.ref x__law_pick)))
    (l__law_pick : K.lookup x__law_pick = some ⟨oc__law_pick, od__law_pick, .func (PySem.W.fnOf "_law_pick" "_law_pick" (defArgs (top 48)) (defBody (top 48)) (defScope (top 48)) .none kV__law_pick dc__law_pick pm__law_pick an__law_pick cd__law_pick ct__law_pick), sl__law_pick⟩)
    (co__law_pick : PySem.W.codeIn K cd__law_pick "_law_pick" = true)
    (k__law_pick : PySem.W.keepIn K (.ref x__law_pick) = true)
    (a__law_box : PySem.W.nsIn K mainGlobals "_law_box" = some (some (.ref x__law_box)))
    (l__law_box : K.lookup x__law_box = some ⟨oc__law_box, od__law_box, .func (PySem.W.fnOf "_law_box" "_law_box" (defArgs (top 55)) (defBody (top 55)) (defScope (top 55)) .none kV__law_box dc__law_box pm__law_box an__law_box cd__law_box ct__law_box), sl__law_box⟩)
    (co__law_box : PySem.W.codeIn K cd__law_box "_law_box" = true)
    (k__law_box : PySem.W.keepIn K (.ref x__law_box) = true)
    (a__law_drawn : PySem.W.nsIn K mainGlobals "_law_drawn" = some (some (.ref x__law_drawn)))
    (l__law_drawn : K.lookup x__law_drawn = some ⟨oc__law_drawn, od__law_drawn, .func (PySem.W.fnOf "_law_drawn" "_law_drawn" (defArgs (top 56)) (defBody (top 56)) (defScope (top 56)) .none kV__law_drawn dc__law_drawn pm__law_drawn an__law_drawn cd__law_drawn ct__law_drawn), sl__law_drawn⟩)
    (co__law_drawn : PySem.W.codeIn K cd__law_drawn "_law_drawn" = true)
    (k__law_drawn : PySem.W.keepIn K (.ref x__law_drawn) = true)
    (a__law_fraction : PySem.W.nsIn K mainGlobals "_law_fraction" = some (some (.ref x__law_fraction)))
    (l__law_fraction : K.lookup x__law_fraction = some ⟨oc__law_fraction, od__law_fraction, .func (PySem.W.fnOf "_law_fraction" "_law_fraction" (defArgs (top 50)) (defBody (top 50)) (defScope (top 50)) .none kV__law_fraction dc__law_fraction pm__law_fraction an__law_fraction cd__law_fraction ct__law_fraction), sl__law_fraction⟩)
    (co__law_fraction : PySem.W.codeIn K cd__law_fraction "_law_fraction" = true)
    (k__law_fraction : PySem.W.keepIn K (.ref x__law_fraction) = true)
    (a__law_moves : PySem.W.nsIn K mainGlobals "_law_moves" = some (some (.ref x__law_moves)))
    (l__law_moves : K.lookup x__law_moves = some ⟨oc__law_moves, od__law_moves, .func (PySem.W.fnOf "_law_moves" "_law_moves" (defArgs (top 58)) (defBody (top 58)) (defScope (top 58)) .none kV__law_moves dc__law_moves pm__law_moves an__law_moves cd__law_moves ct__law_moves), sl__law_moves⟩)
    (co__law_moves : PySem.W.codeIn K cd__law_moves "_law_moves" = true)
    (k__law_moves : PySem.W.keepIn K (.ref x__law_moves) = true)
    (a__law_all : PySem.W.nsIn K mainGlobals "_law_all" = some (some (.ref x__law_all)))
    (l__law_all : K.lookup x__law_all = some ⟨oc__law_all, od__law_all, .func (PySem.W.fnOf "_law_all" "_law_all" (defArgs (top 59)) (defBody (top 59)) (defScope (top 59)) .none kV__law_all dc__law_all pm__law_all an__law_all cd__law_all ct__law_all), sl__law_all⟩)
    (co__law_all : PySem.W.codeIn K cd__law_all "_law_all" = true)
    (k__law_all : PySem.W.keepIn K (.ref x__law_all) = true)
    (a__law_first : PySem.W.nsIn K mainGlobals "_law_first" = some (some (.ref x__law_first)))
    (l__law_first : K.lookup x__law_first = some ⟨oc__law_first, od__law_first, .func (PySem.W.fnOf "_law_first" "_law_first" (defArgs (top 49)) (defBody (top 49)) (defScope (top 49)) .none kV__law_first dc__law_first pm__law_first an__law_first cd__law_first ct__law_first), sl__law_first⟩)
    (co__law_first : PySem.W.codeIn K cd__law_first "_law_first" = true)
    (k__law_first : PySem.W.keepIn K (.ref x__law_first) = true)
    (a__law_stand : PySem.W.nsIn K mainGlobals "_law_stand" = some (some (.ref x__law_stand)))
    (l__law_stand : K.lookup x__law_stand = some ⟨oc__law_stand, od__law_stand, .func (PySem.W.fnOf "_law_stand" "_law_stand" (defArgs (top 60)) (defBody (top 60)) (defScope (top 60)) .none kV__law_stand dc__law_stand pm__law_stand an__law_stand cd__law_stand ct__law_stand), sl__law_stand⟩)
    (co__law_stand : PySem.W.codeIn K cd__law_stand "_law_stand" = true)
    (k__law_stand : PySem.W.keepIn K (.ref x__law_stand) = true)
    (a_is_from : PySem.W.nsIn K mainGlobals "is_from" = some (some (.ref x_is_from)))
    (l_is_from : K.lookup x_is_from = some ⟨oc_is_from, od_is_from, .func (PySem.W.fnOf "is_from" "is_from" (defArgs (top 25)) (defBody (top 25)) (defScope (top 25)) .none kV_is_from dc_is_from pm_is_from an_is_from cd_is_from ct_is_from), sl_is_from⟩)
    (co_is_from : PySem.W.codeIn K cd_is_from "is_from" = true)
    (k_is_from : PySem.W.keepIn K (.ref x_is_from) = true)
    (a_are_chances : PySem.W.nsIn K mainGlobals "are_chances" = some (some (.ref x_are_chances)))
    (l_are_chances : K.lookup x_are_chances = some ⟨oc_are_chances, od_are_chances, .func (PySem.W.fnOf "are_chances" "are_chances" (defArgs (top 26)) (defBody (top 26)) (defScope (top 26)) .none kV_are_chances dc_are_chances pm_are_chances an_are_chances cd_are_chances ct_are_chances), sl_are_chances⟩)
    (co_are_chances : PySem.W.codeIn K cd_are_chances "are_chances" = true)
    (k_are_chances : PySem.W.keepIn K (.ref x_are_chances) = true)
    (a_is_box : PySem.W.nsIn K mainGlobals "is_box" = some (some (.ref x_is_box)))
    (l_is_box : K.lookup x_is_box = some ⟨oc_is_box, od_is_box, .func (PySem.W.fnOf "is_box" "is_box" (defArgs (top 27)) (defBody (top 27)) (defScope (top 27)) .none kV_is_box dc_is_box pm_is_box an_is_box cd_is_box ct_is_box), sl_is_box⟩)
    (co_is_box : PySem.W.codeIn K cd_is_box "is_box" = true)
    (k_is_box : PySem.W.keepIn K (.ref x_is_box) = true)
    (a_are_kept : PySem.W.nsIn K mainGlobals "are_kept" = some (some (.ref x_are_kept)))
    (l_are_kept : K.lookup x_are_kept = some ⟨oc_are_kept, od_are_kept, .func (PySem.W.fnOf "are_kept" "are_kept" (defArgs (top 28)) (defBody (top 28)) (defScope (top 28)) .none kV_are_kept dc_are_kept pm_are_kept an_are_kept cd_are_kept ct_are_kept), sl_are_kept⟩)
    (co_are_kept : PySem.W.codeIn K cd_are_kept "are_kept" = true)
    (k_are_kept : PySem.W.keepIn K (.ref x_are_kept) = true)
    (a__law_made : PySem.W.nsIn K mainGlobals "_law_made" = some (some (.ref x__law_made)))
    (l__law_made : K.lookup x__law_made = some ⟨oc__law_made, od__law_made, .func (PySem.W.fnOf "_law_made" "_law_made" (defArgs (top 57)) (defBody (top 57)) (defScope (top 57)) .none kV__law_made dc__law_made pm__law_made an__law_made cd__law_made ct__law_made), sl__law_made⟩)
    (co__law_made : PySem.W.codeIn K cd__law_made "_law_made" = true)
    (k__law_made : PySem.W.keepIn K (.ref x__law_made) = true)
    (a__law_cost : PySem.W.nsIn K mainGlobals "_law_cost" = some (some (.ref x__law_cost)))
    (l__law_cost : K.lookup x__law_cost = some ⟨oc__law_cost, od__law_cost, .func (PySem.W.fnOf "_law_cost" "_law_cost" (defArgs (top 61)) (defBody (top 61)) (defScope (top 61)) .none kV__law_cost dc__law_cost pm__law_cost an__law_cost cd__law_cost ct__law_cost), sl__law_cost⟩)
    (co__law_cost : PySem.W.codeIn K cd__law_cost "_law_cost" = true)
    (k__law_cost : PySem.W.keepIn K (.ref x__law_cost) = true)
    (a__law_plus : PySem.W.nsIn K mainGlobals "_law_plus" = some (some (.ref x__law_plus)))
    (l__law_plus : K.lookup x__law_plus = some ⟨oc__law_plus, od__law_plus, .func (PySem.W.fnOf "_law_plus" "_law_plus" (defArgs (top 51)) (defBody (top 51)) (defScope (top 51)) .none kV__law_plus dc__law_plus pm__law_plus an__law_plus cd__law_plus ct__law_plus), sl__law_plus⟩)
    (co__law_plus : PySem.W.codeIn K cd__law_plus "_law_plus" = true)
    (k__law_plus : PySem.W.keepIn K (.ref x__law_plus) = true)
    (a__law_times : PySem.W.nsIn K mainGlobals "_law_times" = some (some (.ref x__law_times)))
    (l__law_times : K.lookup x__law_times = some ⟨oc__law_times, od__law_times, .func (PySem.W.fnOf "_law_times" "_law_times" (defArgs (top 52)) (defBody (top 52)) (defScope (top 52)) .none kV__law_times dc__law_times pm__law_times an__law_times cd__law_times ct__law_times), sl__law_times⟩)
    (co__law_times : PySem.W.codeIn K cd__law_times "_law_times" = true)
    (k__law_times : PySem.W.keepIn K (.ref x__law_times) = true)
    (a__law_less : PySem.W.nsIn K mainGlobals "_law_less" = some (some (.ref x__law_less)))
    (l__law_less : K.lookup x__law_less = some ⟨oc__law_less, od__law_less, .func (PySem.W.fnOf "_law_less" "_law_less" (defArgs (top 53)) (defBody (top 53)) (defScope (top 53)) .none kV__law_less dc__law_less pm__law_less an__law_less cd__law_less ct__law_less), sl__law_less⟩)
    (co__law_less : PySem.W.codeIn K cd__law_less "_law_less" = true)
    (k__law_less : PySem.W.keepIn K (.ref x__law_less) = true)
    (a__law_most : PySem.W.nsIn K mainGlobals "_law_most" = some (some (.ref x__law_most)))
    (l__law_most : K.lookup x__law_most = some ⟨oc__law_most, od__law_most, .func (PySem.W.fnOf "_law_most" "_law_most" (defArgs (top 54)) (defBody (top 54)) (defScope (top 54)) .none kV__law_most dc__law_most pm__law_most an__law_most cd__law_most ct__law_most), sl__law_most⟩)
    (co__law_most : PySem.W.codeIn K cd__law_most "_law_most" = true)
    (k__law_most : PySem.W.keepIn K (.ref x__law_most) = true)
    (a__law_within : PySem.W.nsIn K mainGlobals "_law_within" = some (some (.ref x__law_within)))
    (l__law_within : K.lookup x__law_within = some ⟨oc__law_within, od__law_within, .func (PySem.W.fnOf "_law_within" "_law_within" (defArgs (top 62)) (defBody (top 62)) (defScope (top 62)) .none kV__law_within dc__law_within pm__law_within an__law_within cd__law_within ct__law_within), sl__law_within⟩)
    (co__law_within : PySem.W.codeIn K cd__law_within "_law_within" = true)
    (k__law_within : PySem.W.keepIn K (.ref x__law_within) = true)
    (a_is_pair : PySem.W.nsIn K mainGlobals "is_pair" = some (some (.ref x_is_pair)))
    (l_is_pair : K.lookup x_is_pair = some ⟨oc_is_pair, od_is_pair, .func (PySem.W.fnOf "is_pair" "is_pair" (defArgs (top 35)) (defBody (top 35)) (defScope (top 35)) .none kV_is_pair dc_is_pair pm_is_pair an_is_pair cd_is_pair ct_is_pair), sl_is_pair⟩)
    (co_is_pair : PySem.W.codeIn K cd_is_pair "is_pair" = true)
    (k_is_pair : PySem.W.keepIn K (.ref x_is_pair) = true)
    (a_with_kind : PySem.W.nsIn K mainGlobals "with_kind" = some (some (.ref x_with_kind)))
    (l_with_kind : K.lookup x_with_kind = some ⟨oc_with_kind, od_with_kind, .func (PySem.W.fnOf "with_kind" "with_kind" (defArgs (top 32)) (defBody (top 32)) (defScope (top 32)) .none kV_with_kind dc_with_kind pm_with_kind an_with_kind cd_with_kind ct_with_kind), sl_with_kind⟩)
    (co_with_kind : PySem.W.codeIn K cd_with_kind "with_kind" = true)
    (k_with_kind : PySem.W.keepIn K (.ref x_with_kind) = true)
    (a_divisor : PySem.W.nsIn K mainGlobals "divisor" = some (some (.ref x_divisor)))
    (l_divisor : K.lookup x_divisor = some ⟨oc_divisor, od_divisor, .func (PySem.W.fnOf "divisor" "divisor" (defArgs (top 10)) (defBody (top 10)) (defScope (top 10)) .none kV_divisor dc_divisor pm_divisor an_divisor cd_divisor ct_divisor), sl_divisor⟩)
    (co_divisor : PySem.W.codeIn K cd_divisor "divisor" = true)
    (k_divisor : PySem.W.keepIn K (.ref x_divisor) = true)
    (a_fraction : PySem.W.nsIn K mainGlobals "fraction" = some (some (.ref x_fraction)))
    (l_fraction : K.lookup x_fraction = some ⟨oc_fraction, od_fraction, .func (PySem.W.fnOf "fraction" "fraction" (defArgs (top 11)) (defBody (top 11)) (defScope (top 11)) .none kV_fraction dc_fraction pm_fraction an_fraction cd_fraction ct_fraction), sl_fraction⟩)
    (co_fraction : PySem.W.codeIn K cd_fraction "fraction" = true)
    (k_fraction : PySem.W.keepIn K (.ref x_fraction) = true)
    (a_moves_of : PySem.W.nsIn K mainGlobals "moves_of" = some (some (.ref x_moves_of)))
    (l_moves_of : K.lookup x_moves_of = some ⟨oc_moves_of, od_moves_of, .func (PySem.W.fnOf "moves_of" "moves_of" (defArgs (top 33)) (defBody (top 33)) (defScope (top 33)) .none kV_moves_of dc_moves_of pm_moves_of an_moves_of cd_moves_of ct_moves_of), sl_moves_of⟩)
    (co_moves_of : PySem.W.codeIn K cd_moves_of "moves_of" = true)
    (k_moves_of : PySem.W.keepIn K (.ref x_moves_of) = true)
    (a_standings_of : PySem.W.nsIn K mainGlobals "standings_of" = some (some (.ref x_standings_of)))
    (l_standings_of : K.lookup x_standings_of = some ⟨oc_standings_of, od_standings_of, .func (PySem.W.fnOf "standings_of" "standings_of" (defArgs (top 34)) (defBody (top 34)) (defScope (top 34)) .none kV_standings_of dc_standings_of pm_standings_of an_standings_of cd_standings_of ct_standings_of), sl_standings_of⟩)
    (co_standings_of : PySem.W.codeIn K cd_standings_of "standings_of" = true)
    (k_standings_of : PySem.W.keepIn K (.ref x_standings_of) = true)
    (a_is_standing : PySem.W.nsIn K mainGlobals "is_standing" = some (some (.ref x_is_standing)))
    (l_is_standing : K.lookup x_is_standing = some ⟨oc_is_standing, od_is_standing, .func (PySem.W.fnOf "is_standing" "is_standing" (defArgs (top 36)) (defBody (top 36)) (defScope (top 36)) .none kV_is_standing dc_is_standing pm_is_standing an_is_standing cd_is_standing ct_is_standing), sl_is_standing⟩)
    (co_is_standing : PySem.W.codeIn K cd_is_standing "is_standing" = true)
    (k_is_standing : PySem.W.keepIn K (.ref x_is_standing) = true)
    (a_check_standing : PySem.W.nsIn K mainGlobals "check_standing" = some (some (.ref x_check_standing)))
    (l_check_standing : K.lookup x_check_standing = some ⟨oc_check_standing, od_check_standing, .func (PySem.W.fnOf "check_standing" "check_standing" (defArgs (top 37)) (defBody (top 37)) (defScope (top 37)) .none kV_check_standing dc_check_standing pm_check_standing an_check_standing cd_check_standing ct_check_standing), sl_check_standing⟩)
    (co_check_standing : PySem.W.codeIn K cd_check_standing "check_standing" = true)
    (k_check_standing : PySem.W.keepIn K (.ref x_check_standing) = true)
    (a_check_by : PySem.W.nsIn K mainGlobals "check_by" = some (some (.ref x_check_by)))
    (l_check_by : K.lookup x_check_by = some ⟨oc_check_by, od_check_by, .func (PySem.W.fnOf "check_by" "check_by" (defArgs (top 39)) (defBody (top 39)) (defScope (top 39)) .none kV_check_by dc_check_by pm_check_by an_check_by cd_check_by ct_check_by), sl_check_by⟩)
    (co_check_by : PySem.W.codeIn K cd_check_by "check_by" = true)
    (k_check_by : PySem.W.keepIn K (.ref x_check_by) = true)
    (a_check_number : PySem.W.nsIn K mainGlobals "check_number" = some (some (.ref x_check_number)))
    (l_check_number : K.lookup x_check_number = some ⟨oc_check_number, od_check_number, .func (PySem.W.fnOf "check_number" "check_number" (defArgs (top 38)) (defBody (top 38)) (defScope (top 38)) .none kV_check_number dc_check_number pm_check_number an_check_number cd_check_number ct_check_number), sl_check_number⟩)
    (co_check_number : PySem.W.codeIn K cd_check_number "check_number" = true)
    (k_check_number : PySem.W.keepIn K (.ref x_check_number) = true)
    (a_indexes : PySem.W.nsIn K mainGlobals "indexes" = some (some (.ref x_indexes)))
    (l_indexes : K.lookup x_indexes = some ⟨oc_indexes, od_indexes, .func (PySem.W.fnOf "indexes" "indexes" (defArgs (top 42)) (defBody (top 42)) (defScope (top 42)) .none kV_indexes dc_indexes pm_indexes an_indexes cd_indexes ct_indexes), sl_indexes⟩)
    (co_indexes : PySem.W.codeIn K cd_indexes "indexes" = true)
    (k_indexes : PySem.W.keepIn K (.ref x_indexes) = true)
    (a_cost_of : PySem.W.nsIn K mainGlobals "cost_of" = some (some (.ref x_cost_of)))
    (l_cost_of : K.lookup x_cost_of = some ⟨oc_cost_of, od_cost_of, .func (PySem.W.fnOf "cost_of" "cost_of" (defArgs (top 43)) (defBody (top 43)) (defScope (top 43)) .none kV_cost_of dc_cost_of pm_cost_of an_cost_of cd_cost_of ct_cost_of), sl_cost_of⟩)
    (co_cost_of : PySem.W.codeIn K cd_cost_of "cost_of" = true)
    (k_cost_of : PySem.W.keepIn K (.ref x_cost_of) = true)
    (a_plus : PySem.W.nsIn K mainGlobals "plus" = some (some (.ref x_plus)))
    (l_plus : K.lookup x_plus = some ⟨oc_plus, od_plus, .func (PySem.W.fnOf "plus" "plus" (defArgs (top 12)) (defBody (top 12)) (defScope (top 12)) .none kV_plus dc_plus pm_plus an_plus cd_plus ct_plus), sl_plus⟩)
    (co_plus : PySem.W.codeIn K cd_plus "plus" = true)
    (k_plus : PySem.W.keepIn K (.ref x_plus) = true)
    (a_times : PySem.W.nsIn K mainGlobals "times" = some (some (.ref x_times)))
    (l_times : K.lookup x_times = some ⟨oc_times, od_times, .func (PySem.W.fnOf "times" "times" (defArgs (top 13)) (defBody (top 13)) (defScope (top 13)) .none kV_times dc_times pm_times an_times cd_times ct_times), sl_times⟩)
    (co_times : PySem.W.codeIn K cd_times "times" = true)
    (k_times : PySem.W.keepIn K (.ref x_times) = true)
    (a_is_less : PySem.W.nsIn K mainGlobals "is_less" = some (some (.ref x_is_less)))
    (l_is_less : K.lookup x_is_less = some ⟨oc_is_less, od_is_less, .func (PySem.W.fnOf "is_less" "is_less" (defArgs (top 14)) (defBody (top 14)) (defScope (top 14)) .none kV_is_less dc_is_less pm_is_less an_is_less cd_is_less ct_is_less), sl_is_less⟩)
    (co_is_less : PySem.W.codeIn K cd_is_less "is_less" = true)
    (k_is_less : PySem.W.keepIn K (.ref x_is_less) = true)
    (a_greatest : PySem.W.nsIn K mainGlobals "greatest" = some (some (.ref x_greatest)))
    (l_greatest : K.lookup x_greatest = some ⟨oc_greatest, od_greatest, .func (PySem.W.fnOf "greatest" "greatest" (defArgs (top 15)) (defBody (top 15)) (defScope (top 15)) .none kV_greatest dc_greatest pm_greatest an_greatest cd_greatest ct_greatest), sl_greatest⟩)
    (co_greatest : PySem.W.codeIn K cd_greatest "greatest" = true)
    (k_greatest : PySem.W.keepIn K (.ref x_greatest) = true)
    (a_chance : PySem.W.nsIn K mainGlobals "chance" = some (some (.ref x_chance)))
    (l_chance : K.lookup x_chance = some ⟨oc_chance, od_chance, .func (PySem.W.fnOf "chance" "chance" (defArgs (top 45)) (defBody (top 45)) (defScope (top 45)) .none kV_chance dc_chance pm_chance an_chance cd_chance ct_chance), sl_chance⟩)
    (co_chance : PySem.W.codeIn K cd_chance "chance" = true)
    (k_chance : PySem.W.keepIn K (.ref x_chance) = true)
    (a__law_refused : PySem.W.nsIn K mainGlobals "_law_refused" = some (some (.ref x__law_refused)))
    (l__law_refused : K.lookup x__law_refused = some ⟨oc__law_refused, od__law_refused, .func (PySem.W.fnOf "_law_refused" "_law_refused" (defArgs (top 63)) (defBody (top 63)) (defScope (top 63)) .none kV__law_refused dc__law_refused pm__law_refused an__law_refused cd__law_refused ct__law_refused), sl__law_refused⟩)
    (co__law_refused : PySem.W.codeIn K cd__law_refused "_law_refused" = true)
    (k__law_refused : PySem.W.keepIn K (.ref x__law_refused) = true)
    (a_law : PySem.W.nsIn K mainGlobals "law" = some (some (.ref x_law)))
    (l_law : K.lookup x_law = some ⟨oc_law, od_law, .func (PySem.W.fnOf "law" "law" (defArgs (top 64)) (defBody (top 64)) (defScope (top 64)) .none kV_law dc_law pm_law an_law cd_law ct_law), sl_law⟩)
    (co_law : PySem.W.codeIn K cd_law "law" = true)
    (k_law : PySem.W.keepIn K (.ref x_law) = true)
    (a_Book : PySem.W.nsIn K mainGlobals "Book" = some (some (.ref x_Book)))
    (pg_Book : PySem.W.plainGet K x_Book Str.empty = true)
    (hd_Book : PySem.W.hasDictIn K x_Book = true)
    (po_Book : PySem.W.plainOver K x_Book = true)
    (sa_Book : PySem.W.findIn K (.ref x_Book) "__setattr__" = some (some (.builtin "object.__setattr__")))
    (na_Book_told : PySem.W.findIn K (.ref x_Book) "told" = some none)
    (na_Book_left : PySem.W.findIn K (.ref x_Book) "left" = some none)
    (mi_Book : PySem.W.makesIn K x_Book = true)
    (ii_Book : PySem.W.findIn K (.ref x_Book) "__init__" = some (some (.ref x_Book_init)))
    (if_Book : PySem.W.isFn K (.ref x_Book_init) = true)
    (kc_Book : PySem.W.keepIn K (.ref x_Book) = true)
    (l_Book_init : K.lookup x_Book_init = some ⟨oc_Book_init, od_Book_init, .func (PySem.W.fnOf "__init__" "Book.__init__" (defArgs (inClass (top 29) 0)) (defBody (inClass (top 29) 0)) (defScope (inClass (top 29) 0)) (.ref x_T_Book_init) kV_Book_init dc_Book_init pm_Book_init an_Book_init cd_Book_init ct_Book_init), sl_Book_init⟩)
    (co_Book_init : PySem.W.codeIn K cd_Book_init "Book.__init__" = true)
    (k_Book_init : PySem.W.keepIn K (.ref x_Book_init) = true)
    (lT_Book_init : K.lookup x_T_Book_init = some ⟨ocT_Book_init, odT_Book_init, .seq #[.ref x_E_Book_init] nT_Book_init, slT_Book_init⟩)
    (lE_Book_init : K.lookup x_E_Book_init = some ⟨.type "tuple", odE_Book_init, .seq #[] nE_Book_init, slE_Book_init⟩)
    (a_Within : PySem.W.nsIn K mainGlobals "Within" = some (some (.ref x_Within)))
    (pg_Within : PySem.W.plainGet K x_Within Str.empty = true)
    (hd_Within : PySem.W.hasDictIn K x_Within = true)
    (po_Within : PySem.W.plainOver K x_Within = true)
    (sa_Within : PySem.W.findIn K (.ref x_Within) "__setattr__" = some (some (.builtin "object.__setattr__")))
    (na_Within_book : PySem.W.findIn K (.ref x_Within) "book" = some none)
    (na_Within_by : PySem.W.findIn K (.ref x_Within) "by" = some none)
    (na_Within_known : PySem.W.findIn K (.ref x_Within) "known" = some none)
    (mi_Within : PySem.W.makesIn K x_Within = true)
    (ii_Within : PySem.W.findIn K (.ref x_Within) "__init__" = some (some (.ref x_Within_init)))
    (if_Within : PySem.W.isFn K (.ref x_Within_init) = true)
    (kc_Within : PySem.W.keepIn K (.ref x_Within) = true)
    (l_Within_init : K.lookup x_Within_init = some ⟨oc_Within_init, od_Within_init, .func (PySem.W.fnOf "__init__" "Within.__init__" (defArgs (inClass (top 44) 0)) (defBody (inClass (top 44) 0)) (defScope (inClass (top 44) 0)) .none kV_Within_init dc_Within_init pm_Within_init an_Within_init cd_Within_init ct_Within_init), sl_Within_init⟩)
    (co_Within_init : PySem.W.codeIn K cd_Within_init "Within.__init__" = true)
    (k_Within_init : PySem.W.keepIn K (.ref x_Within_init) = true)
    (ma_Within_of_box : PySem.W.findIn K (.ref x_Within) "of_box" = some (some (.ref x_Within_of_box)))
    (mf_Within_of_box : PySem.W.isFn K (.ref x_Within_of_box) = true)
    (l_Within_of_box : K.lookup x_Within_of_box = some ⟨oc_Within_of_box, od_Within_of_box, .func (PySem.W.fnOf "of_box" "Within.of_box" (defArgs (inClass (top 44) 1)) (defBody (inClass (top 44) 1)) (defScope (inClass (top 44) 1)) .none kV_Within_of_box dc_Within_of_box pm_Within_of_box an_Within_of_box cd_Within_of_box ct_Within_of_box), sl_Within_of_box⟩)
    (co_Within_of_box : PySem.W.codeIn K cd_Within_of_box "Within.of_box" = true)
    (k_Within_of_box : PySem.W.keepIn K (.ref x_Within_of_box) = true)
    (ma_Within_of : PySem.W.findIn K (.ref x_Within) "of" = some (some (.ref x_Within_of)))
    (mf_Within_of : PySem.W.isFn K (.ref x_Within_of) = true)
    (l_Within_of : K.lookup x_Within_of = some ⟨oc_Within_of, od_Within_of, .func (PySem.W.fnOf "of" "Within.of" (defArgs (inClass (top 44) 2)) (defBody (inClass (top 44) 2)) (defScope (inClass (top 44) 2)) .none kV_Within_of dc_Within_of pm_Within_of an_Within_of cd_Within_of ct_Within_of), sl_Within_of⟩)
    (co_Within_of : PySem.W.codeIn K cd_Within_of "Within.of" = true)
    (k_Within_of : PySem.W.keepIn K (.ref x_Within_of) = true)
    (oc_sp : PySem.W.specialIn K (.builtin "object.__class__") "__get__" = some (some (.builtin "getset_descriptor.__get__")))
    (oc_tk : PySem.W.takesIn K (.builtin "object.__class__") = some true)
    (a_PrizeError : PySem.W.nsIn K mainGlobals "PrizeError" = some (some (.ref x_PrizeError)))
    (a_BadKept : PySem.W.nsIn K mainGlobals "BadKept" = some (some (.ref x_BadKept)))
    (xk_BadKept : PySem.W.keepIn K (.ref x_BadKept) = true)
    (xb_BadKept : PySem.W.subIn K (.ref x_BadKept) (.type "BaseException") = some true)
    (xt_BadKept : PySem.W.typeIn K (.ref x_BadKept) = some (.type "type"))
    (xe_BadKept : PySem.W.excIn K x_BadKept [.type "ValueError", .type "Exception", .type "BaseException", .type "object"] "ValueError.__new__" = true)
    (a_BadStanding : PySem.W.nsIn K mainGlobals "BadStanding" = some (some (.ref x_BadStanding)))
    (xk_BadStanding : PySem.W.keepIn K (.ref x_BadStanding) = true)
    (xb_BadStanding : PySem.W.subIn K (.ref x_BadStanding) (.type "BaseException") = some true)
    (xt_BadStanding : PySem.W.typeIn K (.ref x_BadStanding) = some (.type "type"))
    (xe_BadStanding : PySem.W.excIn K x_BadStanding [.type "ValueError", .type "Exception", .type "BaseException", .type "object"] "ValueError.__new__" = true)
    (a_BadNumber : PySem.W.nsIn K mainGlobals "BadNumber" = some (some (.ref x_BadNumber)))
    (xk_BadNumber : PySem.W.keepIn K (.ref x_BadNumber) = true)
    (xb_BadNumber : PySem.W.subIn K (.ref x_BadNumber) (.type "BaseException") = some true)
    (xt_BadNumber : PySem.W.typeIn K (.ref x_BadNumber) = some (.type "type"))
    (xe_BadNumber : PySem.W.excIn K x_BadNumber [.type "ValueError", .type "Exception", .type "BaseException", .type "object"] "ValueError.__new__" = true)
    (a_BadWord : PySem.W.nsIn K mainGlobals "BadWord" = some (some (.ref x_BadWord)))
    (xk_BadWord : PySem.W.keepIn K (.ref x_BadWord) = true)
    (xb_BadWord : PySem.W.subIn K (.ref x_BadWord) (.type "BaseException") = some true)
    (xt_BadWord : PySem.W.typeIn K (.ref x_BadWord) = some (.type "type"))
    (xe_BadWord : PySem.W.excIn K x_BadWord [.type "ValueError", .type "Exception", .type "BaseException", .type "object"] "ValueError.__new__" = true)
    (a_BadBox : PySem.W.nsIn K mainGlobals "BadBox" = some (some (.ref x_BadBox)))
    (xk_BadBox : PySem.W.keepIn K (.ref x_BadBox) = true)
    (xb_BadBox : PySem.W.subIn K (.ref x_BadBox) (.type "BaseException") = some true)
    (xt_BadBox : PySem.W.typeIn K (.ref x_BadBox) = some (.type "type"))
    (xl_BadBox : K.lookup x_BadBox = some (excClassObj nm_BadBox q_BadBox x_BadBox N_BadBox bs_BadBox [.ref x_PrizeError, .type "ValueError", .type "Exception", .type "BaseException", .type "object"] true sn_BadBox sub_BadBox ab_BadBox col_BadBox dd_BadBox m0_BadBox m1_BadBox m2_BadBox m3_BadBox m5_BadBox "ValueError.__new__"))
    (xs_BadBox : PySem.W.findIn K (.ref x_BadBox) "__setattr__" = some (some (.builtin "object.__setattr__")))
    (xi_BadBox : PySem.W.findIn K (.ref x_BadBox) "__init__" = some (some (.ref x_BadBox_init)))
    (xf_BadBox : PySem.W.typeIn K (.ref x_BadBox_init) = some (.type "function"))
    (l_BadBox_init : K.lookup x_BadBox_init = some ⟨oc_BadBox_init, od_BadBox_init, .func (PySem.W.fnOf "__init__" "BadBox.__init__" (defArgs (inClass (top 6) 0)) (defBody (inClass (top 6) 0)) (defScope (inClass (top 6) 0)) .none kV_BadBox_init dc_BadBox_init pm_BadBox_init an_BadBox_init cd_BadBox_init ct_BadBox_init), sl_BadBox_init⟩)
    (co_BadBox_init : PySem.W.codeIn K cd_BadBox_init "BadBox.__init__" = true)
    (k_BadBox_init : PySem.W.keepIn K (.ref x_BadBox_init) = true)
    (no_BadBox_index : PySem.W.findIn K (.ref x_BadBox) "index" = some none)
    (hg_BadNumber : PySem.W.findIn K (.ref x_BadNumber) "__getattribute__" = some (some (.builtin "BaseException.__getattribute__")))
    (hk_BadNumber : PySem.W.findIn K (.ref x_BadNumber) "__getattr__" = some none)
    (hs_BadNumber : PySem.W.subIn K (.ref x_BadNumber) (.type "BaseException") = some true)
    (hd_BadNumber : PySem.W.hasDictIn K x_BadNumber = true)
    (ha_BadNumber : PySem.W.findIn K (.ref x_BadNumber) "__class__" = some (some (.builtin "object.__class__")))
    (hm_BadNumber : PySem.W.mroIn K x_BadNumber (.type "object") = some true)
    (qi_PrizeError : PySem.W.isClsIn K x_PrizeError = true)
    (qt_PrizeError : PySem.W.typeIn K (.ref x_PrizeError) = some (.type "type"))
    (kp_BadNumber : PySem.W.subIn K (.ref x_BadNumber) (.ref x_PrizeError) = some true)
    (hg_BadStanding : PySem.W.findIn K (.ref x_BadStanding) "__getattribute__" = some (some (.builtin "BaseException.__getattribute__")))
    (hk_BadStanding : PySem.W.findIn K (.ref x_BadStanding) "__getattr__" = some none)
    (hs_BadStanding : PySem.W.subIn K (.ref x_BadStanding) (.type "BaseException") = some true)
    (hd_BadStanding : PySem.W.hasDictIn K x_BadStanding = true)
    (ha_BadStanding : PySem.W.findIn K (.ref x_BadStanding) "__class__" = some (some (.builtin "object.__class__")))
    (hm_BadStanding : PySem.W.mroIn K x_BadStanding (.type "object") = some true)
    (kp_BadStanding : PySem.W.subIn K (.ref x_BadStanding) (.ref x_PrizeError) = some true)
    (hg_BadWord : PySem.W.findIn K (.ref x_BadWord) "__getattribute__" = some (some (.builtin "BaseException.__getattribute__")))
    (hk_BadWord : PySem.W.findIn K (.ref x_BadWord) "__getattr__" = some none)
    (hs_BadWord : PySem.W.subIn K (.ref x_BadWord) (.type "BaseException") = some true)
    (hd_BadWord : PySem.W.hasDictIn K x_BadWord = true)
    (ha_BadWord : PySem.W.findIn K (.ref x_BadWord) "__class__" = some (some (.builtin "object.__class__")))
    (hm_BadWord : PySem.W.mroIn K x_BadWord (.type "object") = some true)
    (kp_BadWord : PySem.W.subIn K (.ref x_BadWord) (.ref x_PrizeError) = some true)
    (qi_BadNumber : PySem.W.isClsIn K x_BadNumber = true)
    (qt_BadNumber : PySem.W.typeIn K (.ref x_BadNumber) = some (.type "type"))
    (qb_BadNumber : PySem.W.subIn K (.ref x_BadNumber) (.type "BaseException") = some true)
    (ex_BadStanding_BadNumber : PySem.W.subIn K (.ref x_BadStanding) (.ref x_BadNumber) = some false)
    (ex_BadNumber_BadNumber : PySem.W.subIn K (.ref x_BadNumber) (.ref x_BadNumber) = some true)
    (ex_BadWord_BadNumber : PySem.W.subIn K (.ref x_BadWord) (.ref x_BadNumber) = some false)
    (qi_BadStanding : PySem.W.isClsIn K x_BadStanding = true)
    (qt_BadStanding : PySem.W.typeIn K (.ref x_BadStanding) = some (.type "type"))
    (qb_BadStanding : PySem.W.subIn K (.ref x_BadStanding) (.type "BaseException") = some true)
    (ex_BadStanding_BadStanding : PySem.W.subIn K (.ref x_BadStanding) (.ref x_BadStanding) = some true)
    (ex_BadNumber_BadStanding : PySem.W.subIn K (.ref x_BadNumber) (.ref x_BadStanding) = some false)
    (ex_BadWord_BadStanding : PySem.W.subIn K (.ref x_BadWord) (.ref x_BadStanding) = some false)
    (qi_BadWord : PySem.W.isClsIn K x_BadWord = true)
    (qt_BadWord : PySem.W.typeIn K (.ref x_BadWord) = some (.type "type"))
    (qb_BadWord : PySem.W.subIn K (.ref x_BadWord) (.type "BaseException") = some true)
    (ex_BadStanding_BadWord : PySem.W.subIn K (.ref x_BadStanding) (.ref x_BadWord) = some false)
    (ex_BadNumber_BadWord : PySem.W.subIn K (.ref x_BadNumber) (.ref x_BadWord) = some false)
    (ex_BadWord_BadWord : PySem.W.subIn K (.ref x_BadWord) (.ref x_BadWord) = some true)
    (hF : ∀ ns : List Int, ns.length ≤ 63 → ∃ μ', F_law [.lst (ns.map D.int)] [] = .ok (.bl true) μ') :
    ∃ fd : FuncData, (∀ (s : Shared) (v : Value), BindsTo s fd ⟨[v], []⟩ [("_law_script", v)]) ∧ ∀ base : Heap, K.In base → base.Ns mainGlobals mg → FnOk P w K mg base (L2.CX P w) 67 fa fd ["_law_script"] (spLaw K) := by
  have e := hfa.symm.trans (PySem.W.mg_of X Gn a_law)
  cases e
  let ad : Ad := ⟨x_U_FIRST_0, x_U_FIRST_1, x_U_FIRST, x_U_FRESH, x_U_ONE, x_U_ZERO, x__law_draws, x__law_pick, x__law_box, x__law_drawn, x__law_fraction, x__law_moves, x__law_all, x__law_first, x__law_stand, x_is_from, x_are_chances, x_is_box, x_are_kept, x__law_made, x__law_cost, x__law_plus, x__law_times, x__law_less, x__law_most, x__law_within, x_is_pair, x_with_kind, x_divisor, x_fraction, x_moves_of, x_standings_of, x_is_standing, x_check_standing, x_check_by, x_check_number, x_indexes, x_cost_of, x_plus, x_times, x_is_less, x_greatest, x_chance, x__law_refused, fa, x_Book, x_Book_init, x_T_Book_init, x_E_Book_init, x_Within, x_Within_init, x_Within_of_box, x_Within_of, x_PrizeError, x_BadKept, x_BadStanding, x_BadNumber, x_BadWord, x_BadBox, x_BadBox_init⟩
  let G : Glo := { P := P, w := w, K := K, mg := mg, cl := clT ad, fn := fnT ad, xa := none }
  have T : Txt G ad := {
    cl := rfl
    fnv := rfl
    c_DRAWS := ⟨⟨_, .str "draws", PySem.W.mg_of X Gn z_DRAWS, ⟨_, rfl⟩, fun _ _ => rfl⟩⟩
    c_FIRST := ⟨⟨_, .ref _, PySem.W.mg_of X Gn z_FIRST, rfl, fun _ _ => ⟨_, [.ref _, .ref _], rfl, .inr ⟨_, #[_, _], _, lU_FIRST, rfl, rfl, Nat.le_of_lt (L2.small1000 (by show 2 ≤ 1000; decide)), .cons rfl (.cons rfl (.nil))⟩, ⟨_, _, rfl, ⟨_, [.int 0, .bl false], rfl, .inr ⟨_, #[_, _], _, lU_FIRST_0, rfl, rfl, Nat.le_of_lt (L2.small1000 (by show 2 ≤ 1000; decide)), .cons ⟨_, rfl⟩ (.cons rfl (.nil))⟩, ⟨_, _, rfl, rfl, ⟨_, _, rfl, rfl, rfl⟩⟩⟩, ⟨_, _, rfl, ⟨_, [.int 0, .bl false], rfl, .inr ⟨_, #[_, _], _, lU_FIRST_1, rfl, rfl, Nat.le_of_lt (L2.small1000 (by show 2 ≤ 1000; decide)), .cons ⟨_, rfl⟩ (.cons rfl (.nil))⟩, ⟨_, _, rfl, rfl, ⟨_, _, rfl, rfl, rfl⟩⟩⟩, rfl⟩⟩⟩⟩⟩
    c_FRESH := ⟨⟨_, .ref _, PySem.W.mg_of X Gn z_FRESH, rfl, fun _ _ => ⟨_, [.int 0, .bl false], rfl, .inr ⟨_, #[_, _], _, lU_FRESH, rfl, rfl, Nat.le_of_lt (L2.small1000 (by show 2 ≤ 1000; decide)), .cons ⟨_, rfl⟩ (.cons rfl (.nil))⟩, ⟨_, _, rfl, rfl, ⟨_, _, rfl, rfl, rfl⟩⟩⟩⟩⟩
    c_MISS := ⟨⟨_, .str "miss", PySem.W.mg_of X Gn z_MISS, ⟨_, rfl⟩, fun _ _ => rfl⟩⟩
    c_MOST_BOXES := ⟨⟨_, .int 3, PySem.W.mg_of X Gn z_MOST_BOXES, ⟨_, rfl⟩, fun _ _ => rfl⟩⟩
    c_MOST_CHANCES := ⟨⟨_, .int 5, PySem.W.mg_of X Gn z_MOST_CHANCES, ⟨_, rfl⟩, fun _ _ => rfl⟩⟩
    c_MOST_WITHIN := ⟨⟨_, .int 20, PySem.W.mg_of X Gn z_MOST_WITHIN, ⟨_, rfl⟩, fun _ _ => rfl⟩⟩
    c_ONE := ⟨⟨_, .ref _, PySem.W.mg_of X Gn z_ONE, rfl, fun _ _ => ⟨_, [.int 1, .int 1], rfl, .inr ⟨_, #[_, _], _, lU_ONE, rfl, rfl, Nat.le_of_lt (L2.small1000 (by show 2 ≤ 1000; decide)), .cons ⟨_, rfl⟩ (.cons ⟨_, rfl⟩ (.nil))⟩, ⟨_, _, rfl, rfl, ⟨_, _, rfl, rfl, rfl⟩⟩⟩⟩⟩
    c_OTHER := ⟨⟨_, .str "other", PySem.W.mg_of X Gn z_OTHER, ⟨_, rfl⟩, fun _ _ => rfl⟩⟩
    c_SURE := ⟨⟨_, .int 100, PySem.W.mg_of X Gn z_SURE, ⟨_, rfl⟩, fun _ _ => rfl⟩⟩
    c_TICKETS := ⟨⟨_, .str "tickets", PySem.W.mg_of X Gn z_TICKETS, ⟨_, rfl⟩, fun _ _ => rfl⟩⟩
    c_WISHED := ⟨⟨_, .str "wished", PySem.W.mg_of X Gn z_WISHED, ⟨_, rfl⟩, fun _ _ => rfl⟩⟩
    c_ZERO := ⟨⟨_, .ref _, PySem.W.mg_of X Gn z_ZERO, rfl, fun _ _ => ⟨_, [.int 0, .int 1], rfl, .inr ⟨_, #[_, _], _, lU_ZERO, rfl, rfl, Nat.le_of_lt (L2.small1000 (by show 2 ≤ 1000; decide)), .cons ⟨_, rfl⟩ (.cons ⟨_, rfl⟩ (.nil))⟩, ⟨_, _, rfl, rfl, ⟨_, _, rfl, rfl, rfl⟩⟩⟩⟩⟩
    n_all := PySem.W.mg_none_of X Gn z_all
    n_bool := PySem.W.mg_none_of X Gn z_bool
    n_enumerate := PySem.W.mg_none_of X Gn z_enumerate
    n_int := PySem.W.mg_none_of X Gn z_int
    n_isinstance := PySem.W.mg_none_of X Gn z_isinstance
    n_len := PySem.W.mg_none_of X Gn z_len
    n_list := PySem.W.mg_none_of X Gn z_list
    n_min := PySem.W.mg_none_of X Gn z_min
    n_range := PySem.W.mg_none_of X Gn z_range
    n_set := PySem.W.mg_none_of X Gn z_set
    n_sorted := PySem.W.mg_none_of X Gn z_sorted
    n_str := PySem.W.mg_none_of X Gn z_str
    n_tuple := PySem.W.mg_none_of X Gn z_tuple
    g__law_draws := PySem.W.mg_of X Gn a__law_draws
    t__law_draws := ⟨_, fun_mk l__law_draws co__law_draws k__law_draws⟩
    g__law_pick := PySem.W.mg_of X Gn a__law_pick
    t__law_pick := ⟨_, fun_mk l__law_pick co__law_pick k__law_pick⟩
    g__law_box := PySem.W.mg_of X Gn a__law_box
    t__law_box := ⟨_, fun_mk l__law_box co__law_box k__law_box⟩
    g__law_drawn := PySem.W.mg_of X Gn a__law_drawn
    t__law_drawn := ⟨_, fun_mk l__law_drawn co__law_drawn k__law_drawn⟩
    g__law_fraction := PySem.W.mg_of X Gn a__law_fraction
    t__law_fraction := ⟨_, fun_mk l__law_fraction co__law_fraction k__law_fraction⟩
    g__law_moves := PySem.W.mg_of X Gn a__law_moves
    t__law_moves := ⟨_, fun_mk l__law_moves co__law_moves k__law_moves⟩
    g__law_all := PySem.W.mg_of X Gn a__law_all
    t__law_all := ⟨_, fun_mk l__law_all co__law_all k__law_all⟩
    g__law_first := PySem.W.mg_of X Gn a__law_first
    t__law_first := ⟨_, fun_mk l__law_first co__law_first k__law_first⟩
    g__law_stand := PySem.W.mg_of X Gn a__law_stand
    t__law_stand := ⟨_, fun_mk l__law_stand co__law_stand k__law_stand⟩
    g_is_from := PySem.W.mg_of X Gn a_is_from
    t_is_from := ⟨_, fun_mk l_is_from co_is_from k_is_from⟩
    g_are_chances := PySem.W.mg_of X Gn a_are_chances
    t_are_chances := ⟨_, fun_mk l_are_chances co_are_chances k_are_chances⟩
    g_is_box := PySem.W.mg_of X Gn a_is_box
    t_is_box := ⟨_, fun_mk l_is_box co_is_box k_is_box⟩
    g_are_kept := PySem.W.mg_of X Gn a_are_kept
    t_are_kept := ⟨_, fun_mk l_are_kept co_are_kept k_are_kept⟩
    g__law_made := PySem.W.mg_of X Gn a__law_made
    t__law_made := ⟨_, fun_mk l__law_made co__law_made k__law_made⟩
    g__law_cost := PySem.W.mg_of X Gn a__law_cost
    t__law_cost := ⟨_, fun_mk l__law_cost co__law_cost k__law_cost⟩
    g__law_plus := PySem.W.mg_of X Gn a__law_plus
    t__law_plus := ⟨_, fun_mk l__law_plus co__law_plus k__law_plus⟩
    g__law_times := PySem.W.mg_of X Gn a__law_times
    t__law_times := ⟨_, fun_mk l__law_times co__law_times k__law_times⟩
    g__law_less := PySem.W.mg_of X Gn a__law_less
    t__law_less := ⟨_, fun_mk l__law_less co__law_less k__law_less⟩
    g__law_most := PySem.W.mg_of X Gn a__law_most
    t__law_most := ⟨_, fun_mk l__law_most co__law_most k__law_most⟩
    g__law_within := PySem.W.mg_of X Gn a__law_within
    t__law_within := ⟨_, fun_mk l__law_within co__law_within k__law_within⟩
    g_is_pair := PySem.W.mg_of X Gn a_is_pair
    t_is_pair := ⟨_, fun_mk l_is_pair co_is_pair k_is_pair⟩
    g_with_kind := PySem.W.mg_of X Gn a_with_kind
    t_with_kind := ⟨_, fun_mk l_with_kind co_with_kind k_with_kind⟩
    g_divisor := PySem.W.mg_of X Gn a_divisor
    t_divisor := ⟨_, fun_mk l_divisor co_divisor k_divisor⟩
    g_fraction := PySem.W.mg_of X Gn a_fraction
    t_fraction := ⟨_, fun_mk l_fraction co_fraction k_fraction⟩
    g_moves_of := PySem.W.mg_of X Gn a_moves_of
    t_moves_of := ⟨_, fun_mk l_moves_of co_moves_of k_moves_of⟩
    g_standings_of := PySem.W.mg_of X Gn a_standings_of
    t_standings_of := ⟨_, fun_mk l_standings_of co_standings_of k_standings_of⟩
    g_is_standing := PySem.W.mg_of X Gn a_is_standing
    t_is_standing := ⟨_, fun_mk l_is_standing co_is_standing k_is_standing⟩
    g_check_standing := PySem.W.mg_of X Gn a_check_standing
    t_check_standing := ⟨_, fun_mk l_check_standing co_check_standing k_check_standing⟩
    g_check_by := PySem.W.mg_of X Gn a_check_by
    t_check_by := ⟨_, fun_mk l_check_by co_check_by k_check_by⟩
    g_check_number := PySem.W.mg_of X Gn a_check_number
    t_check_number := ⟨_, fun_mk l_check_number co_check_number k_check_number⟩
    g_indexes := PySem.W.mg_of X Gn a_indexes
    t_indexes := ⟨_, fun_mk l_indexes co_indexes k_indexes⟩
    g_cost_of := PySem.W.mg_of X Gn a_cost_of
    t_cost_of := ⟨_, fun_mk l_cost_of co_cost_of k_cost_of⟩
    g_plus := PySem.W.mg_of X Gn a_plus
    t_plus := ⟨_, fun_mk l_plus co_plus k_plus⟩
    g_times := PySem.W.mg_of X Gn a_times
    t_times := ⟨_, fun_mk l_times co_times k_times⟩
    g_is_less := PySem.W.mg_of X Gn a_is_less
    t_is_less := ⟨_, fun_mk l_is_less co_is_less k_is_less⟩
    g_greatest := PySem.W.mg_of X Gn a_greatest
    t_greatest := ⟨_, fun_mk l_greatest co_greatest k_greatest⟩
    g_chance := PySem.W.mg_of X Gn a_chance
    t_chance := ⟨_, fun_mk l_chance co_chance k_chance⟩
    g__law_refused := PySem.W.mg_of X Gn a__law_refused
    t__law_refused := ⟨_, fun_mk l__law_refused co__law_refused k__law_refused⟩
    g_law := PySem.W.mg_of X Gn a_law
    t_law := ⟨_, fun_mk l_law co_law k_law⟩
    g_Book := PySem.W.mg_of X Gn a_Book
    cls_Book := ⟨pg_Book, hd_Book, po_Book, sa_Book⟩
    na_Book_told := na_Book_told
    na_Book_left := na_Book_left
    mk_Book := ⟨mi_Book, ii_Book, if_Book, kc_Book⟩
    t_Book_init := ⟨_, ⟨⟨_, _, _, _, _, _, _, _, _, _, rfl, l_Book_init, co_Book_init, .inr ⟨by simp, _, _, [.ref _], _, rfl, lT_Book_init, rfl, .cons rfl .nil⟩, .inl rfl⟩, k_Book_init⟩⟩
    e_Book_init := fun H ι => ⟨_, _, rfl, ⟨_, [], rfl, .inr ⟨_, #[], _, lE_Book_init, rfl, rfl, by simp, .nil⟩, rfl⟩, rfl⟩
    g_Within := PySem.W.mg_of X Gn a_Within
    cls_Within := ⟨pg_Within, hd_Within, po_Within, sa_Within⟩
    na_Within_book := na_Within_book
    na_Within_by := na_Within_by
    na_Within_known := na_Within_known
    mk_Within := ⟨mi_Within, ii_Within, if_Within, kc_Within⟩
    t_Within_init := ⟨_, fun_mk l_Within_init co_Within_init k_Within_init⟩
    t_Within_of_box := ⟨_, fun_mk l_Within_of_box co_Within_of_box k_Within_of_box⟩
    me_Within_of_box := ⟨ma_Within_of_box, mf_Within_of_box, k_Within_of_box⟩
    t_Within_of := ⟨_, fun_mk l_Within_of co_Within_of k_Within_of⟩
    me_Within_of := ⟨ma_Within_of, mf_Within_of, k_Within_of⟩
    oc_sp := oc_sp
    oc_tk := oc_tk
    g_PrizeError := PySem.W.mg_of X Gn a_PrizeError
    g_BadKept := PySem.W.mg_of X Gn a_BadKept
    x_BadKept := ⟨xe_BadKept, xk_BadKept, xb_BadKept, xt_BadKept⟩
    g_BadStanding := PySem.W.mg_of X Gn a_BadStanding
    x_BadStanding := ⟨xe_BadStanding, xk_BadStanding, xb_BadStanding, xt_BadStanding⟩
    g_BadNumber := PySem.W.mg_of X Gn a_BadNumber
    x_BadNumber := ⟨xe_BadNumber, xk_BadNumber, xb_BadNumber, xt_BadNumber⟩
    g_BadWord := PySem.W.mg_of X Gn a_BadWord
    x_BadWord := ⟨xe_BadWord, xk_BadWord, xb_BadWord, xt_BadWord⟩
    g_BadBox := PySem.W.mg_of X Gn a_BadBox
    x_BadBox := ⟨⟨_, _, _, _, _, _, _, _, _, _, _, _, _, _, _, xl_BadBox, by simp [PySem.HandSPX.refsVE]⟩, xs_BadBox, xb_BadBox, xt_BadBox, xk_BadBox⟩
    xi_BadBox := xi_BadBox
    xf_BadBox := xf_BadBox
    t_BadBox_init := ⟨_, fun_mk l_BadBox_init co_BadBox_init k_BadBox_init⟩
    no_BadBox_index := no_BadBox_index
    ec_BadNumber := ⟨hg_BadNumber, hk_BadNumber, hs_BadNumber, hd_BadNumber, ha_BadNumber, oc_sp, oc_tk, hm_BadNumber⟩
    xx_BadNumber := ⟨hg_BadNumber, hk_BadNumber, hs_BadNumber, hd_BadNumber⟩
    kp_BadNumber := kit_sub qi_PrizeError qt_PrizeError kp_BadNumber
    ec_BadStanding := ⟨hg_BadStanding, hk_BadStanding, hs_BadStanding, hd_BadStanding, ha_BadStanding, oc_sp, oc_tk, hm_BadStanding⟩
    xx_BadStanding := ⟨hg_BadStanding, hk_BadStanding, hs_BadStanding, hd_BadStanding⟩
    kp_BadStanding := kit_sub qi_PrizeError qt_PrizeError kp_BadStanding
    ec_BadWord := ⟨hg_BadWord, hk_BadWord, hs_BadWord, hd_BadWord, ha_BadWord, oc_sp, oc_tk, hm_BadWord⟩
    xx_BadWord := ⟨hg_BadWord, hk_BadWord, hs_BadWord, hd_BadWord⟩
    kp_BadWord := kit_sub qi_PrizeError qt_PrizeError kp_BadWord
    ex_BadStanding_BadNumber := exm_sub qb_BadNumber qi_BadNumber qt_BadNumber ex_BadStanding_BadNumber
    ex_BadNumber_BadNumber := exm_sub qb_BadNumber qi_BadNumber qt_BadNumber ex_BadNumber_BadNumber
    ex_BadWord_BadNumber := exm_sub qb_BadNumber qi_BadNumber qt_BadNumber ex_BadWord_BadNumber
    ex_BadStanding_BadStanding := exm_sub qb_BadStanding qi_BadStanding qt_BadStanding ex_BadStanding_BadStanding
    ex_BadNumber_BadStanding := exm_sub qb_BadStanding qi_BadStanding qt_BadStanding ex_BadNumber_BadStanding
    ex_BadWord_BadStanding := exm_sub qb_BadStanding qi_BadStanding qt_BadStanding ex_BadWord_BadStanding
    ex_BadStanding_BadWord := exm_sub qb_BadWord qi_BadWord qt_BadWord ex_BadStanding_BadWord
    ex_BadNumber_BadWord := exm_sub qb_BadWord qi_BadWord qt_BadWord ex_BadNumber_BadWord
    ex_BadWord_BadWord := exm_sub qb_BadWord qi_BadWord qt_BadWord ex_BadWord_BadWord }
  have Fl := fun_mk (st := top 64) l_law co_law k_law
  exact ⟨PySem.W.fnOf "law" "law" (defArgs (top 64)) (defBody (top 64)) (defScope (top 64)) .none kV_law dc_law pm_law an_law cd_law ct_law, fun s v => .of_eq rfl, fun base _ _ => (dlaw (base := base) T rfl Fl).imp (law_imp (G := G) hF)⟩
end K06
end
section
/-! P06a: one turn of k06. -/
namespace K06
open PySem PySem.Spec PySem.W SZ SZ.U
def S0 : SF := (sAsg (eCall F__law_drawn (aCons (eVar 1) (aCons (eC (.int 3)) (aCons (eC (.int 4)) (aNil))))) (gNm 3))
def S1 : SF := (sPar [4, 5, 6] (aCons (eCall F__law_made (aCons (eVar 3) (aNil))) (aCons (eCall F__law_stand (aCons (eVar 1) (aCons (eVar 3) (aNil)))) (aCons (eB ixD (eLst (aCons (eC (.str "draws")) (aCons (eC (.str "tickets")) (aNil)))) (eCall F__law_pick (aCons (eVar 1) (aCons (eC (.int 2)) (aNil))))) (aNil)))))
def S2 : SF := (sAsg (eB ixD (eLst (aCons (eCall F__law_pick (aCons (eVar 1) (aCons (eC (.int 13)) (aNil)))) (aCons (eC (.int 20)) (aNil)))) (eCall intD (aCons (eB (eqD false) (eCall F__law_pick (aCons (eVar 1) (aCons (eC (.int 8)) (aNil)))) (eC (.int 0))) (aNil)))) (gNm 7))
def S3 : SF := (sAsg (eCall F__law_within (aCons (eVar 3) (aCons (eVar 5) (aCons (eVar 6) (aCons (eVar 7) (aNil)))))) (gNm 8))
def S4 : SF := (L_law_1)
def S5 : SF := (sAsg (eB ixD (eLst (aCons (eC (.int (-1))) (aCons (eC (.int 21)) (aCons (eC (.bl true)) (aCons (eC .non) (aCons (eC (.str "1")) (aCons (eTup (aCons (eC (.int 1)) (aNil))) (aNil)))))))) (eCall F__law_pick (aCons (eVar 1) (aCons (eC (.int 6)) (aNil))))) (gNm 10))
def S6 : SF := (sIf (tOrD (tVal (eB (eqD true) (eCall F__law_refused (aCons (eVar 4) (aCons (eVar 5) (aCons (eVar 6) (aCons (eVar 10) (aNil)))))) (eC (.str "number")))) (tVal (eB (eqD true) (eCall F__law_refused (aCons (eVar 4) (aCons (eVar 5) (aCons (eC (.str "by")) (aCons (eVar 10) (aNil)))))) (eC (.str "word"))))) (sSeq (sRet (eC (.bl false))) (sNil)) (sNil))
def S7 : SF := (sIf (tVal (eB (eqD true) (eCall F__law_refused (aCons (eVar 4) (aCons (eC .non) (aCons (eC (.str "by")) (aCons (eVar 10) (aNil)))))) (eC (.str "standing")))) (sSeq (sRet (eC (.bl false))) (sNil)) (sNil))
theorem L_law_2_eq : L_law_2 = sFor (iRn1 (aCons (eC (.int 2)) (aNil))) (gNm 2) (sSeq S0 (sSeq S1 (sSeq S2 (sSeq S3 (sSeq S4 (sSeq S5 (sSeq S6 (sSeq S7 sNil)))))))) := rfl
def sl (a : D) (o2 o3 o4 o5 o6 o7 o8 o9 o10 : Option D) : Sl := [some a, some (.ref 0), o2, o3, o4, o5, o6, o7, o8, o9, o10]
theorem refused_stand {a b c d : D} {μ : MH} (h : F_chance [a, b, c, d] μ = .ex 8 [] μ) : F__law_refused [a, b, c, d] μ = .ok (.str "standing") μ := by
  have ht : trunc μ (.ok (.str "standing") μ) = .ok (.str "standing") μ := trunc_len rfl
  simp [F__law_refused, fnB, h, hdl, ht]
theorem refused_word {a b c d : D} {μ : MH} (h : F_chance [a, b, c, d] μ = .ex 10 [] μ) : F__law_refused [a, b, c, d] μ = .ok (.str "word") μ := by
  have ht : trunc μ (.ok (.str "word") μ) = .ok (.str "word") μ := trunc_len rfl
  simp [F__law_refused, fnB, h, hdl, ht]
theorem refused_num {a b c d : D} {μ : MH} (h : F_chance [a, b, c, d] μ = .ex 9 [] μ) : F__law_refused [a, b, c, d] μ = .ok (.str "number") μ := by
  have ht : trunc μ (.ok (.str "number") μ) = .ok (.str "number") μ := trunc_len rfl
  simp [F__law_refused, fnB, h, hdl, ht]
theorem str_ne {x : Str} {μ : MH} : eqD true (.str x) (.str x) μ = .ok (.bl false) μ := eqD_self (p := .str x) rfl (by simp [PyData.depth])
theorem num_no {v : Nat} {d : D} (h : [D.int (-1), .int 21, .bl true, .non, .str "1", .tup [.int 1]][v]? = some d) : plainD d = true ∧ isFromB d 0 20 = false := by
  match v, h with
  | 0, h | 1, h | 2, h | 3, h | 4, h | 5, h => cases h; exact ⟨rfl, rfl⟩
  | n + 6, h => simp at h
theorem turn_ok {ns : List Int} {rest μ : MH} {a : D} {o2 o3 o4 o5 o6 o7 o8 o9 o10 : Option D} (h : Rw ns rest μ) : ∃ (p3 p4 p5 p6 p7 p8 p9 p10 : Option D) (μ' : MH),
    (sSeq S0 (sSeq S1 (sSeq S2 (sSeq S3 (sSeq S4 (sSeq S5 (sSeq S6 (sSeq S7 sNil)))))))) (sl a o2 o3 o4 o5 o6 o7 o8 o9 o10) μ = .nx (sl a o2 p3 p4 p5 p6 p7 p8 p9 p10) μ' ∧ Rw ns rest μ' := by
  have hz : ∀ n, n ≤ 1000 → n ≤ sizeLine := fun n h => le_size h
  have hz1 := hz 1 (by decide)
  have hz2 := hz 2 (by decide)
  have hz6 := hz 6 (by decide)
  obtain ⟨bs, kp, μ1, e1, ok, _, _, hk, r1⟩ := drawnN_ok h 3 4 (by decide) (by decide) (by decide) (by decide)
  have em := madeN_ok (kp := kp) (μ := μ1) ok hk
  obtain ⟨s, μ2, e2, hs, hsi, r2⟩ := law_stand_ok (kp := kp) r1 ok
  obtain ⟨v, μ3, e3, hv, r3⟩ := pick_ok r2 2 (by decide) (by decide)
  obtain ⟨t, ht⟩ : ∃ t, ∀ μ, ixD (.lst [.str "draws", .str "tickets"]) (.int (v : Nat)) μ = .ok (byD t) μ := by
    have : v = 0 ∨ v = 1 := by omega
    rcases this with rfl | rfl
    · exact ⟨false, fun _ => rfl⟩
    · exact ⟨true, fun _ => rfl⟩
  obtain ⟨x, μ4, e4, hx, r4⟩ := pick_ok r3 13 (by decide) (by decide)
  obtain ⟨y, μ5, e5, hy, r5⟩ := pick_ok r4 8 (by decide) (by decide)
  obtain ⟨N, hN20, hN⟩ : ∃ N : Nat, N ≤ 20 ∧ ∀ μ, ixD (.lst [.int (x : Nat), .int 20]) (.int (if decide (y = 0) = true then 1 else 0)) μ = .ok (.int (N : Nat)) μ := by
    by_cases q : y = 0
    · exact ⟨20, by omega, fun μ => by simp [q]⟩
    · exact ⟨x, by omega, fun μ => by simp [q]⟩
  have ew := law_within_ok (kp := kp) (t := t) (N := N) (μ := μ5) ok hsi hN20
  obtain ⟨n2, μ6, e6, hn2, r6⟩ := pick_ok r5 ((N : Int) + 1) (by omega) (by omega)
  obtain ⟨w, μ7, e7, hw, r7⟩ := pick_ok r6 6 (by decide) (by decide)
  obtain ⟨nb, hnb⟩ : ∃ nb, [D.int (-1), .int 21, .bl true, .non, .str "1", .tup [.int 1]][w]? = some nb := ⟨_, List.getElem?_eq_getElem (by show w < 6; omega)⟩
  have hnn := num_no hnb
  have xn : ∀ μ, ixD (.lst [D.int (-1), .int 21, .bl true, .non, .str "1", .tup [.int 1]]) (.int w) μ = .ok nb μ := fun μ => by simp [hnb]
  have t0 : S0 (sl a o2 o3 o4 o5 o6 o7 o8 o9 o10) μ = .nx (sl a o2 (some (dcN bs kp)) o4 o5 o6 o7 o8 o9 o10) μ1 := by
    have e1' : F__law_drawn [.ref 0, .int 3, .int 4] μ = .ok (dcN bs kp) μ1 := e1
    simp [S0, sl, e1']
  have t1 : S1 (sl a o2 (some (dcN bs kp)) o4 o5 o6 o7 o8 o9 o10) μ1 = .nx (sl a o2 (some (dcN bs kp)) (some (bkN bs kp)) (some (zD s)) (some (byD t)) o7 o8 o9 o10) μ3 := by
    have e3' : F__law_pick [.ref 0, .int 2] μ2 = .ok (.int v) μ3 := e3
    simp [-ixD, S1, sl, em, e2, hz2, e3', ht]
  have y0 : ∀ μ, eqD false (.int (y : Nat)) (.int 0) μ = .ok (.bl (decide (y = 0))) μ := fun μ => is0
  have t2 : S2 (sl a o2 (some (dcN bs kp)) (some (bkN bs kp)) (some (zD s)) (some (byD t)) o7 o8 o9 o10) μ3 = .nx (sl a o2 (some (dcN bs kp)) (some (bkN bs kp)) (some (zD s)) (some (byD t)) (some (.int N)) o8 o9 o10) μ5 := by
    have e4' : F__law_pick [.ref 0, .int 13] μ3 = .ok (.int x) μ4 := e4
    have e5' : F__law_pick [.ref 0, .int 8] μ4 = .ok (.int y) μ5 := e5
    generalize decide (y = 0) = B at *
    simp [-ixD, -eqD, S2, sl, e4', hz2, e5', y0, hN]
  have hRow : ∀ j, j ≤ N → ∀ μ, ixD (.lst (rowsD bs t s (N + 1))) (.int (j : Nat)) μ = .ok (rowD bs t s j) μ := fun j hj μ => by
    have := rows_ix (bs := bs) (t := t) (s0 := s) (n := N + 1) (j := j) (by omega)
    simp [this]
  have hself : s ∈ allS bs true s := mem_stOf.mpr ⟨hsi, .nil⟩
  have t3 : S3 (sl a o2 (some (dcN bs kp)) (some (bkN bs kp)) (some (zD s)) (some (byD t)) (some (.int N)) o8 o9 o10) μ5 = .nx (sl a o2 (some (dcN bs kp)) (some (bkN bs kp)) (some (zD s)) (some (byD t)) (some (.int N)) (some (.lst (rowsD bs t s (N + 1)))) o9 o10) μ5 := by
    generalize rowsD bs t s (N + 1) = A at *
    simp [S3, sl, ew]
  have step : ∀ j, j ≤ N → ∀ μ, (sSeq (sIf (tVal (eB (eqD true) (eCall F_chance (aCons (eVar 4) (aCons (eVar 5) (aCons (eVar 6) (aCons (eVar 9) (aNil)))))) (eB ixD (eB ixD (eVar 8) (eVar 9)) (eVar 5)))) (sSeq (sRet (eC (.bl false))) (sNil)) (sNil)) (sNil)) (sl a o2 (some (dcN bs kp)) (some (bkN bs kp)) (some (zD s)) (some (byD t)) (some (.int N)) (some (.lst (rowsD bs t s (N + 1)))) (some (.int j)) o10) μ = .nx (sl a o2 (some (dcN bs kp)) (some (bkN bs kp)) (some (zD s)) (some (byD t)) (some (.int N)) (some (.lst (rowsD bs t s (N + 1)))) (some (.int j)) o10) μ := fun j hj μ => by
    have f1 := chanceF_ok (kp := kp) (t := t) (n := j) (μ := μ) ok hs (by omega)
    have f2 := hRow j hj μ
    have f3 := row_ix (bs := bs) (t := t) (n := j) hself (μ := μ)
    have f4 := qD_ne (q := Wd bs (cst t) s j) (μ := μ)
    generalize rowsD bs t s (N + 1) = A at *
    simp [-ixD, -eqD, sl, f1, f2, f3, f4]
  have t4 : S4 (sl a o2 (some (dcN bs kp)) (some (bkN bs kp)) (some (zD s)) (some (byD t)) (some (.int N)) (some (.lst (rowsD bs t s (N + 1)))) o9 o10) μ5 = .nx (sl a o2 (some (dcN bs kp)) (some (bkN bs kp)) (some (zD s)) (some (byD t)) (some (.int N)) (some (.lst (rowsD bs t s (N + 1)))) (some (.int n2)) o10) μ6 := by
    unfold S4 L_law_1 sFor
    have hb : iSq (eLst (aCons (eVar 7) (aCons (eCall F__law_pick (aCons (eVar 1) (aCons (eB addD (eVar 7) (eC (.int 1))) (aNil)))) (aNil)))) (sl a o2 (some (dcN bs kp)) (some (bkN bs kp)) (some (zD s)) (some (byD t)) (some (.int N)) (some (.lst (rowsD bs t s (N + 1)))) o9 o10) μ5 = .ok (fun μ => sameL μ (.lst [.int N, .int n2]) [.int N, .int n2], [.int N, .int n2]) μ6 := by
      generalize rowsD bs t s (N + 1) = A at *
      simp [sl, e6, hz2]
    rw [hb]
    have s1 := step N (by omega) μ6
    have s2 := step n2 (by omega) μ6
    have sl9 : ∀ x o, (sl a o2 (some (dcN bs kp)) (some (bkN bs kp)) (some (zD s)) (some (byD t)) (some (.int N)) (some (.lst (rowsD bs t s (N + 1)))) o o10).set 9 x = sl a o2 (some (dcN bs kp)) (some (bkN bs kp)) (some (zD s)) (some (byD t)) (some (.int N)) (some (.lst (rowsD bs t s (N + 1)))) x o10 := fun _ _ => rfl
    simp only [R.to, sForL, gNm]
    simp only [sl9, s1, s2, SR.turn, sameL_lst, if_true]
  have f1 := refused_num (chance_num (kp := kp) (t := t) (μ := μ7) ok hs hnn.1 hnn.2)
  have fb := check_by_bad (d := .str "by") (μ := μ7) (.inr ⟨_, rfl, by decide, by decide⟩)
  have f2 := refused_word (chance_by (kp := kp) (y := nb) (μ := μ7) ok hs fb)
  have f3 := refused_stand (chance_st (kp := kp) (x := .str "by") (y := nb) (μ := μ7) (nost_ty (bs := bs) (d := .non) fun _ => .inl rfl))
  have sn : ∀ x μ, eqD true (.str x) (.str x) μ = .ok (.bl false) μ := fun x μ => str_ne
  refine ⟨some (dcN bs kp), some (bkN bs kp), some (zD s), some (byD t), some (.int N), some (.lst (rowsD bs t s (N + 1))), some (.int n2), some nb, μ7, ?_, r7⟩
  rw [seq_nx t0, seq_nx t1, seq_nx t2, seq_nx t3, seq_nx t4]
  clear t0 t1 t2 t3 t4 step
  have e7' : F__law_pick [.ref 0, .int 6] μ6 = .ok (.int w) μ7 := e7
  generalize rowsD bs t s (N + 1) = A at *
  simp [-ixD, -eqD, S5, S6, S7, sl, hz1, hz6, e7', xn, f1, f2, f3, sn]
theorem pure_law : ∀ ns : List Int, ns.length ≤ 63 → ∃ μ', F_law [.lst (ns.map SZ.D.int)] [] = .ok (.bl true) μ' := by
  intro ns _
  have e1 := draws_ok ns
  have loop : ∃ δ' μ', L_law_2 (sl (.lst (ns.map SZ.D.int)) none none none none none none none none none) (M ns 0 0 7 []) = .nx δ' μ' ∧ True := by
    rw [L_law_2_eq]
    unfold sFor
    rw [iRn1_ok (n := 2) (μ' := M ns 0 0 7 []) (by simp) (by decide)]
    obtain ⟨δ', μ', e, _⟩ := for_rng (n := 2) (g := gNm 2) (f := sSeq S0 (sSeq S1 (sSeq S2 (sSeq S3 (sSeq S4 (sSeq S5 (sSeq S6 (sSeq S7 sNil))))))))
      (P := fun _ δ μ => ∃ o2 o3 o4 o5 o6 o7 o8 o9 o10, δ = sl (.lst (ns.map SZ.D.int)) o2 o3 o4 o5 o6 o7 o8 o9 o10 ∧ Rw ns [] μ)
      (fun i δ μ _ hp => by
        obtain ⟨o2, o3, o4, o5, o6, o7, o8, o9, o10, rfl, r⟩ := hp
        obtain ⟨p3, p4, p5, p6, p7, p8, p9, p10, μ', e, r'⟩ := turn_ok (a := .lst (ns.map SZ.D.int)) (o2 := some (.int i)) (o3 := o3) (o4 := o4) (o5 := o5) (o6 := o6) (o7 := o7) (o8 := o8) (o9 := o9) (o10 := o10) r
        exact ⟨_, μ, _, _, rfl, e, _, _, _, _, _, _, _, _, _, rfl, r'⟩) (δ := sl (.lst (ns.map SZ.D.int)) none none none none none none none none none) (μ := M ns 0 0 7 []) ⟨_, _, _, _, _, _, _, _, _, rfl, 0, 0, 7, rfl⟩
    exact ⟨δ', μ', e, trivial⟩
  obtain ⟨δ', μ', e, _⟩ := loop
  have e' : L_law_2 [some (.lst (ns.map SZ.D.int)), some (.ref 0), none, none, none, none, none, none, none, none, none] (M ns 0 0 7 []) = .nx δ' μ' := e
  refine ⟨?_, ?_⟩
  rotate_left
  · simp [F_law, fnB, e1, e', trunc]
    rfl
end K06
end
section
set_option maxHeartbeats 0
open PySem PySem.W PyProof.Rows
open_top hd_k06 for PySem.Challenge.rw_sureprize_k06_whole_chances
end
section
open PySem PySem.W PyProof.Rows
set_option maxRecDepth 100000 in
set_option maxHeartbeats 0 in
theorem PySem.Challenge.cw_sureprize_k06_whole_chances_holds : PySem.Challenge.rw_sureprize_k06_whole_chances.Holds := by
  refine hd_k06 ?_
  k_fill
  refine SZ.walkZ (l := PySem.Challenge.rw_sureprize_k06_whole_chances) 67 rfl rfl ⟨rfl, by decide, by decide⟩ (fun w h Y => PySem.W.kIn_of Y) ?F
  case F =>
    intro w mg fa h KX G hmg
    refine' K06.all_mk KX G hmg ?z_DRAWS ?lU_FIRST_0 ?lU_FIRST_1 ?lU_FIRST ?z_FIRST ?lU_FRESH ?z_FRESH ?z_MISS ?z_MOST_BOXES ?z_MOST_CHANCES ?z_MOST_WITHIN ?lU_ONE ?z_ONE ?z_OTHER ?z_SURE ?z_TICKETS ?z_WISHED ?lU_ZERO ?z_ZERO ?z_all ?z_bool ?z_enumerate ?z_int ?z_isinstance ?z_len ?z_list ?z_min ?z_range ?z_set ?z_sorted ?z_str ?z_tuple ?a__law_draws ?l__law_draws ?co__law_draws ?k__law_draws ?a__law_pick ?l__law_pick ?co__law_pick ?k__law_pick ?a__law_box ?l__law_box ?co__law_box ?k__law_box ?a__law_drawn ?l__law_drawn ?co__law_drawn ?k__law_drawn ?a__law_fraction ?l__law_fraction ?co__law_fraction ?k__law_fraction ?a__law_moves ?l__law_moves ?co__law_moves ?k__law_moves ?a__law_all ?l__law_all ?co__law_all ?k__law_all ?a__law_first ?l__law_first ?co__law_first ?k__law_first ?a__law_stand ?l__law_stand ?co__law_stand ?k__law_stand ?a_is_from ?l_is_from ?co_is_from ?k_is_from ?a_are_chances ?l_are_chances ?co_are_chances ?k_are_chances ?a_is_box ?l_is_box ?co_is_box ?k_is_box ?a_are_kept ?l_are_kept ?co_are_kept ?k_are_kept ?a__law_made ?l__law_made ?co__law_made ?k__law_made ?a__law_cost ?l__law_cost ?co__law_cost ?k__law_cost ?a__law_plus ?l__law_plus ?co__law_plus ?k__law_plus ?a__law_times ?l__law_times ?co__law_times ?k__law_times ?a__law_less ?l__law_less ?co__law_less ?k__law_less ?a__law_most ?l__law_most ?co__law_most ?k__law_most ?a__law_within ?l__law_within ?co__law_within ?k__law_within ?a_is_pair ?l_is_pair ?co_is_pair ?k_is_pair ?a_with_kind ?l_with_kind ?co_with_kind ?k_with_kind ?a_divisor ?l_divisor ?co_divisor ?k_divisor ?a_fraction ?l_fraction ?co_fraction ?k_fraction ?a_moves_of ?l_moves_of ?co_moves_of ?k_moves_of ?a_standings_of ?l_standings_of ?co_standings_of ?k_standings_of ?a_is_standing ?l_is_standing ?co_is_standing ?k_is_standing ?a_check_standing ?l_check_standing ?co_check_standing ?k_check_standing ?a_check_by ?l_check_by ?co_check_by ?k_check_by ?a_check_number ?l_check_number ?co_check_number ?k_check_number ?a_indexes ?l_indexes ?co_indexes ?k_indexes ?a_cost_of ?l_cost_of ?co_cost_of ?k_cost_of ?a_plus ?l_plus ?co_plus ?k_plus ?a_times ?l_times ?co_times ?k_times ?a_is_less ?l_is_less ?co_is_less ?k_is_less ?a_greatest ?l_greatest ?co_greatest ?k_greatest ?a_chance ?l_chance ?co_chance ?k_chance ?a__law_refused ?l__law_refused ?co__law_refused ?k__law_refused ?a_law ?l_law ?co_law ?k_law ?a_Book ?pg_Book ?hd_Book ?po_Book ?sa_Book ?na_Book_told ?na_Book_left ?mi_Book ?ii_Book ?if_Book ?kc_Book ?l_Book_init ?co_Book_init ?k_Book_init ?lT_Book_init ?lE_Book_init ?a_Within ?pg_Within ?hd_Within ?po_Within ?sa_Within ?na_Within_book ?na_Within_by ?na_Within_known ?mi_Within ?ii_Within ?if_Within ?kc_Within ?l_Within_init ?co_Within_init ?k_Within_init ?ma_Within_of_box ?mf_Within_of_box ?l_Within_of_box ?co_Within_of_box ?k_Within_of_box ?ma_Within_of ?mf_Within_of ?l_Within_of ?co_Within_of ?k_Within_of ?oc_sp ?oc_tk ?a_PrizeError ?a_BadKept ?xk_BadKept ?xb_BadKept ?xt_BadKept ?xe_BadKept ?a_BadStanding ?xk_BadStanding ?xb_BadStanding ?xt_BadStanding ?xe_BadStanding ?a_BadNumber ?xk_BadNumber ?xb_BadNumber ?xt_BadNumber ?xe_BadNumber ?a_BadWord ?xk_BadWord ?xb_BadWord ?xt_BadWord ?xe_BadWord ?a_BadBox ?xk_BadBox ?xb_BadBox ?xt_BadBox ?xl_BadBox ?xs_BadBox ?xi_BadBox ?xf_BadBox ?l_BadBox_init ?co_BadBox_init ?k_BadBox_init ?no_BadBox_index ?hg_BadNumber ?hk_BadNumber ?hs_BadNumber ?hd_BadNumber ?ha_BadNumber ?hm_BadNumber ?qi_PrizeError ?qt_PrizeError ?kp_BadNumber ?hg_BadStanding ?hk_BadStanding ?hs_BadStanding ?hd_BadStanding ?ha_BadStanding ?hm_BadStanding ?kp_BadStanding ?hg_BadWord ?hk_BadWord ?hs_BadWord ?hd_BadWord ?ha_BadWord ?hm_BadWord ?kp_BadWord ?qi_BadNumber ?qt_BadNumber ?qb_BadNumber ?ex_BadStanding_BadNumber ?ex_BadNumber_BadNumber ?ex_BadWord_BadNumber ?qi_BadStanding ?qt_BadStanding ?qb_BadStanding ?ex_BadStanding_BadStanding ?ex_BadNumber_BadStanding ?ex_BadWord_BadStanding ?qi_BadWord ?qt_BadWord ?qb_BadWord ?ex_BadStanding_BadWord ?ex_BadNumber_BadWord ?ex_BadWord_BadWord K06.pure_law
    (case z_DRAWS => k_is)
    (case z_FIRST => k_is)
    (case z_FRESH => k_is)
    (case z_MISS => k_is)
    (case z_MOST_BOXES => k_is)
    (case z_MOST_CHANCES => k_is)
    (case z_MOST_WITHIN => k_is)
    (case z_ONE => k_is)
    (case z_OTHER => k_is)
    (case z_SURE => k_is)
    (case z_TICKETS => k_is)
    (case z_WISHED => k_is)
    (case z_ZERO => k_is)
    (case z_all => k_is)
    (case z_bool => k_is)
    (case z_enumerate => k_is)
    (case z_int => k_is)
    (case z_isinstance => k_is)
    (case z_len => k_is)
    (case z_list => k_is)
    (case z_min => k_is)
    (case z_range => k_is)
    (case z_set => k_is)
    (case z_sorted => k_is)
    (case z_str => k_is)
    (case z_tuple => k_is)
    (case lU_FIRST => k_is)
    (case lU_FRESH => k_is)
    (case lU_ONE => k_is)
    (case lU_ZERO => k_is)
    (case lU_FIRST_0 => k_is)
    (case lU_FIRST_1 => k_is)
    (case a__law_draws => k_is)
    (case l__law_draws => k_is)
    (case co__law_draws => k_is)
    (case k__law_draws => k_is)
    (case a__law_pick => k_is)
    (case l__law_pick => k_is)
    (case co__law_pick => k_is)
    (case k__law_pick => k_is)
    (case a__law_box => k_is)
    (case l__law_box => k_is)
    (case co__law_box => k_is)
    (case k__law_box => k_is)
    (case a__law_drawn => k_is)
    (case l__law_drawn => k_is)
    (case co__law_drawn => k_is)
    (case k__law_drawn => k_is)
    (case a__law_fraction => k_is)
    (case l__law_fraction => k_is)
    (case co__law_fraction => k_is)
    (case k__law_fraction => k_is)
    (case a__law_moves => k_is)
    (case l__law_moves => k_is)
    (case co__law_moves => k_is)
    (case k__law_moves => k_is)
    (case a__law_all => k_is)
    (case l__law_all => k_is)
    (case co__law_all => k_is)
    (case k__law_all => k_is)
    (case a__law_first => k_is)
    (case l__law_first => k_is)
    (case co__law_first => k_is)
    (case k__law_first => k_is)
    (case a__law_stand => k_is)
    (case l__law_stand => k_is)
    (case co__law_stand => k_is)
    (case k__law_stand => k_is)
    (case a_is_from => k_is)
    (case l_is_from => k_is)
    (case co_is_from => k_is)
    (case k_is_from => k_is)
    (case a_are_chances => k_is)
    (case l_are_chances => k_is)
    (case co_are_chances => k_is)
    (case k_are_chances => k_is)
    (case a_is_box => k_is)
    (case l_is_box => k_is)
    (case co_is_box => k_is)
    (case k_is_box => k_is)
    (case a_are_kept => k_is)
    (case l_are_kept => k_is)
    (case co_are_kept => k_is)
    (case k_are_kept => k_is)
    (case a__law_made => k_is)
    (case l__law_made => k_is)
    (case co__law_made => k_is)
    (case k__law_made => k_is)
    (case a__law_cost => k_is)
    (case l__law_cost => k_is)
    (case co__law_cost => k_is)
    (case k__law_cost => k_is)
    (case a__law_plus => k_is)
    (case l__law_plus => k_is)
    (case co__law_plus => k_is)
    (case k__law_plus => k_is)
    (case a__law_times => k_is)
    (case l__law_times => k_is)
    (case co__law_times => k_is)
    (case k__law_times => k_is)
    (case a__law_less => k_is)
    (case l__law_less => k_is)
    (case co__law_less => k_is)
    (case k__law_less => k_is)
    (case a__law_most => k_is)
    (case l__law_most => k_is)
    (case co__law_most => k_is)
    (case k__law_most => k_is)
    (case a__law_within => k_is)
    (case l__law_within => k_is)
    (case co__law_within => k_is)
    (case k__law_within => k_is)
    (case a_is_pair => k_is)
    (case l_is_pair => k_is)
    (case co_is_pair => k_is)
    (case k_is_pair => k_is)
    (case a_with_kind => k_is)
    (case l_with_kind => k_is)
    (case co_with_kind => k_is)
    (case k_with_kind => k_is)
    (case a_divisor => k_is)
    (case l_divisor => k_is)
    (case co_divisor => k_is)
    (case k_divisor => k_is)
    (case a_fraction => k_is)
    (case l_fraction => k_is)
    (case co_fraction => k_is)
    (case k_fraction => k_is)
    (case a_moves_of => k_is)
    (case l_moves_of => k_is)
    (case co_moves_of => k_is)
    (case k_moves_of => k_is)
    (case a_standings_of => k_is)
    (case l_standings_of => k_is)
    (case co_standings_of => k_is)
    (case k_standings_of => k_is)
    (case a_is_standing => k_is)
    (case l_is_standing => k_is)
    (case co_is_standing => k_is)
    (case k_is_standing => k_is)
    (case a_check_standing => k_is)
    (case l_check_standing => k_is)
    (case co_check_standing => k_is)
    (case k_check_standing => k_is)
    (case a_check_by => k_is)
    (case l_check_by => k_is)
    (case co_check_by => k_is)
    (case k_check_by => k_is)
    (case a_check_number => k_is)
    (case l_check_number => k_is)
    (case co_check_number => k_is)
    (case k_check_number => k_is)
    (case a_indexes => k_is)
    (case l_indexes => k_is)
    (case co_indexes => k_is)
    (case k_indexes => k_is)
    (case a_cost_of => k_is)
    (case l_cost_of => k_is)
    (case co_cost_of => k_is)
    (case k_cost_of => k_is)
    (case a_plus => k_is)
    (case l_plus => k_is)
    (case co_plus => k_is)
    (case k_plus => k_is)
    (case a_times => k_is)
    (case l_times => k_is)
    (case co_times => k_is)
    (case k_times => k_is)
    (case a_is_less => k_is)
    (case l_is_less => k_is)
    (case co_is_less => k_is)
    (case k_is_less => k_is)
    (case a_greatest => k_is)
    (case l_greatest => k_is)
    (case co_greatest => k_is)
    (case k_greatest => k_is)
    (case a_chance => k_is)
    (case l_chance => k_is)
    (case co_chance => k_is)
    (case k_chance => k_is)
    (case a__law_refused => k_is)
    (case l__law_refused => k_is)
    (case co__law_refused => k_is)
    (case k__law_refused => k_is)
    (case a_law => k_is)
    (case l_law => k_is)
    (case co_law => k_is)
    (case k_law => k_is)
    (case a_Book => k_is)
    (case pg_Book => k_is)
    (case hd_Book => k_is)
    (case po_Book => k_is)
    (case sa_Book => k_is)
    (case na_Book_told => k_is)
    (case na_Book_left => k_is)
    (case mi_Book => k_is)
    (case ii_Book => k_is)
    (case if_Book => k_is)
    (case kc_Book => k_is)
    (case l_Book_init => k_is)
    (case co_Book_init => k_is)
    (case k_Book_init => k_is)
    (case lT_Book_init => k_is)
    (case lE_Book_init => k_is)
    (case a_Within => k_is)
    (case pg_Within => k_is)
    (case hd_Within => k_is)
    (case po_Within => k_is)
    (case sa_Within => k_is)
    (case na_Within_book => k_is)
    (case na_Within_by => k_is)
    (case na_Within_known => k_is)
    (case mi_Within => k_is)
    (case ii_Within => k_is)
    (case if_Within => k_is)
    (case kc_Within => k_is)
    (case l_Within_init => k_is)
    (case co_Within_init => k_is)
    (case k_Within_init => k_is)
    (case ma_Within_of_box => k_is)
    (case mf_Within_of_box => k_is)
    (case l_Within_of_box => k_is)
    (case co_Within_of_box => k_is)
    (case k_Within_of_box => k_is)
    (case ma_Within_of => k_is)
    (case mf_Within_of => k_is)
    (case l_Within_of => k_is)
    (case co_Within_of => k_is)
    (case k_Within_of => k_is)
    (case oc_sp => k_is)
    (case oc_tk => k_is)
    (case a_PrizeError => k_is)
    (case a_BadKept => k_is)
    (case xk_BadKept => k_is)
    (case xb_BadKept => k_is)
    (case xt_BadKept => k_is)
    (case xe_BadKept => k_exc)
    (case a_BadStanding => k_is)
    (case xk_BadStanding => k_is)
    (case xb_BadStanding => k_is)
    (case xt_BadStanding => k_is)
    (case xe_BadStanding => k_exc)
    (case a_BadNumber => k_is)
    (case xk_BadNumber => k_is)
    (case xb_BadNumber => k_is)
    (case xt_BadNumber => k_is)
    (case xe_BadNumber => k_exc)
    (case a_BadWord => k_is)
    (case xk_BadWord => k_is)
    (case xb_BadWord => k_is)
    (case xt_BadWord => k_is)
    (case xe_BadWord => k_exc)
    (case a_BadBox => k_is)
    (case xk_BadBox => k_is)
    (case xb_BadBox => k_is)
    (case xt_BadBox => k_is)
    (case xl_BadBox => k_is)
    (case xs_BadBox => k_is)
    (case xi_BadBox => k_is)
    (case xf_BadBox => k_is)
    (case l_BadBox_init => k_is)
    (case co_BadBox_init => k_is)
    (case k_BadBox_init => k_is)
    (case no_BadBox_index => k_is)
    (case hg_BadNumber => k_is)
    (case hk_BadNumber => k_is)
    (case hs_BadNumber => k_is)
    (case hd_BadNumber => k_is)
    (case ha_BadNumber => k_is)
    (case hm_BadNumber => k_is)
    (case qi_PrizeError => k_is)
    (case qt_PrizeError => k_is)
    (case kp_BadNumber => k_is)
    (case hg_BadStanding => k_is)
    (case hk_BadStanding => k_is)
    (case hs_BadStanding => k_is)
    (case hd_BadStanding => k_is)
    (case ha_BadStanding => k_is)
    (case hm_BadStanding => k_is)
    (case kp_BadStanding => k_is)
    (case hg_BadWord => k_is)
    (case hk_BadWord => k_is)
    (case hs_BadWord => k_is)
    (case hd_BadWord => k_is)
    (case ha_BadWord => k_is)
    (case hm_BadWord => k_is)
    (case kp_BadWord => k_is)
    (case qi_BadNumber => k_is)
    (case qt_BadNumber => k_is)
    (case qb_BadNumber => k_is)
    (case ex_BadStanding_BadNumber => first | rfl | k_is)
    (case ex_BadNumber_BadNumber => first | rfl | k_is)
    (case ex_BadWord_BadNumber => first | rfl | k_is)
    (case qi_BadStanding => k_is)
    (case qt_BadStanding => k_is)
    (case qb_BadStanding => k_is)
    (case ex_BadStanding_BadStanding => first | rfl | k_is)
    (case ex_BadNumber_BadStanding => first | rfl | k_is)
    (case ex_BadWord_BadStanding => first | rfl | k_is)
    (case qi_BadWord => k_is)
    (case qt_BadWord => k_is)
    (case qb_BadWord => k_is)
    (case ex_BadStanding_BadWord => first | rfl | k_is)
    (case ex_BadNumber_BadWord => first | rfl | k_is)
    (case ex_BadWord_BadWord => first | rfl | k_is)
end
